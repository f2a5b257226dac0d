/- What a checked program is: its statements. -/
import Derived.Test.YtdedkpfbfklgbaaC33
namespace Go.Proofs.Ytdedkpfbfklgbaa
open Go.RowKit Go.SX
set_option maxRecDepth 100000
set_option maxHeartbeats 4000000
set_option linter.unusedVariables false
set_option linter.unusedSimpArgs false

theorem Fit.mono {F R : Nat} {sig sig' : ByteArray → Option Nat} {s : GStmt} (h : Fit F R sig s) (hs : ∀ k a, sig k = some a → sig' k = some a) : Fit F R sig' s := { h with
  name := fun hu => let ⟨a, ha⟩ := h.name hu; ⟨a, hs _ _ ha⟩
  store := fun hu => hs _ _ (h.store hu)
  frm := fun hu => by
    obtain ⟨a, ha⟩ := h.name (use_name h.kind (.inr hu))
    rw [hs _ _ ha, hs _ _ ((h.frm hu).trans ha)]
  lit := fun hu => by
    obtain ⟨h1, h2⟩ := h.lit hu
    refine ⟨h1, ?_⟩
    split
    · rename_i hk; rw [if_pos hk] at h2; exact h2
    · rename_i hk; rw [if_neg hk] at h2; exact ⟨h2.1, hs _ _ h2.2⟩ }
theorem SFit.mono {F R : Nat} {sig sig' : ByteArray → Option Nat} (hs : ∀ k a, sig k = some a → sig' k = some a) {s : GStmt} (h : SFit F R sig s) : SFit F R sig' s := by
  induction h with
  | mk h hb he ihb ihe => exact .mk (h.mono hs) ihb ihe
theorem Ext.sig {a b : Chk} (h : Ext a b) (hb : b.bad = false) : ∀ k n, sigS a.A a.S k = some n → sigS b.A b.S k = some n := by
  intro k n hk
  unfold sigS at hk ⊢
  rw [h.A]
  cases hA : lookA a.A k with
  | some x => rw [hA] at hk; exact hk
  | none =>
    rw [hA] at hk
    simp only at hk ⊢
    cases hS : lookA a.S k with
    | none => rw [hS] at hk; cases hk
    | some x => rw [hS] at hk; rw [h.look hb k x hS]; exact hk
theorem enter_ok (st : Chk) (s : GStmt) (level : Int) : Ext st (st.enter s level) ∧ ((st.enter s level).bad = false → 0 ≤ s.Kind ∧ s.Kind < 15) := by
  refine ⟨(⟨rfl, rfl, id, id, fun _ _ _ h => h⟩ : Ext st { st with cnt := st.cnt + 1 }).trans (ext_need _ _), fun h => ?_⟩
  have := need_ok h
  simp only [Bool.and_eq_true, decide_eq_true_eq] at this
  exact this.1.1
mutual
theorem stmt_ok : ∀ (s : GStmt) (level : Int) (st : Chk), Ext st (stmtP s level st) ∧ ((stmtP s level st).bad = false → SFit st.c.Flags.toNat st.c.Regs.toNat (sigS (stmtP s level st).A (stmtP s level st).S) s)
  | ⟨k, f, g, r, n, nm, fr, lit, regs, body, els⟩, level, st => by
    rw [stmtP]
    try simp only
    have h1 := enter_ok st ⟨k, f, g, r, n, nm, fr, lit, regs, body, els⟩ level
    generalize st.enter ⟨k, f, g, r, n, nm, fr, lit, regs, body, els⟩ level = s1 at h1 ⊢
    by_cases hb : s1.bad = true
    · rw [if_pos hb]; exact ⟨h1.1, fun h => by rw [hb] at h; cases h⟩
    · rw [if_neg hb]
      have hb' : s1.bad = false := by simpa using hb
      have h2 := flds_ok s1 ⟨k, f, g, r, n, nm, fr, lit, regs, body, els⟩
      generalize hs2 : s1.flds ⟨k, f, g, r, n, nm, fr, lit, regs, body, els⟩ = s2 at h2 ⊢
      have h3 := list_ok body (level + 1) s2
      have x2 := h1.1.trans h2.1
      by_cases hp : (listP body (level + 1) s2).2 = true
      · rw [if_pos hp]
        refine ⟨x2.trans h3.1, fun h => ?_⟩
        rw [(h3.2 h).1] at hp; cases hp
      · rw [if_neg hp]
        have h4 := list_ok els (level + 1) (listP body (level + 1) s2).1
        have x3 := x2.trans h3.1
        refine ⟨x3.trans h4.1, fun h => ?_⟩
        have b3 := h4.1.bad h
        have b2 := h3.1.bad b3
        have hc1 : s1.c = st.c := h1.1.c
        have hc2 : s2.c = st.c := x2.c
        have hc3 : (listP body (level + 1) s2).1.c = st.c := x3.c
        have g1 := h2.2 b2 (h1.2 hb')
        have g2 := (h3.2 b3).2
        have g3 := (h4.2 h).2
        rw [hc1] at g1
        rw [hc2] at g2
        rw [hc3] at g3
        exact .mk (g1.mono ((h3.1.trans h4.1).sig h)) (fun x hx => (g2 x hx).mono (h4.1.sig h)) g3
theorem list_ok : ∀ (l : List GStmt) (level : Int) (st : Chk), Ext st (listP l level st).1 ∧ ((listP l level st).1.bad = false → (listP l level st).2 = false ∧ ∀ x ∈ l, SFit st.c.Flags.toNat st.c.Regs.toNat (sigS (listP l level st).1.A (listP l level st).1.S) x)
  | [], level, st => by rw [listP]; exact ⟨Ext.refl st, fun _ => ⟨rfl, by simp⟩⟩
  | x :: l, level, st => by
    have h1 := stmt_ok x level st
    rw [listP]
    try simp only
    generalize stmtP x level st = s1 at h1 ⊢
    by_cases hb : s1.bad = true
    · rw [if_pos hb]; exact ⟨h1.1, fun h => by simp only at h; rw [hb] at h; cases h⟩
    · rw [if_neg hb]
      have h2 := list_ok l level s1
      refine ⟨h1.1.trans h2.1, fun h => ⟨(h2.2 h).1, fun y hy => ?_⟩⟩
      have hc : s1.c = st.c := h1.1.c
      rcases List.mem_cons.1 hy with rfl | hy
      · exact (h1.2 (by simpa using hb)).mono (h2.1.sig h)
      · have := (h2.2 h).2 y hy
        rw [hc] at this; exact this
end
theorem body_ok : ∀ (l : List GStmt) (st : Chk), Ext st (bodyP l st) ∧ ((bodyP l st).bad = false → ∀ x ∈ l, SFit st.c.Flags.toNat st.c.Regs.toNat (sigS (bodyP l st).A (bodyP l st).S) x)
  | [], st => ⟨Ext.refl st, fun _ x h => by cases h⟩
  | x :: l, st => by
    rw [bodyP]
    by_cases hb : st.bad = true
    · rw [if_pos hb]; exact ⟨Ext.refl st, fun h => by rw [hb] at h; cases h⟩
    · rw [if_neg hb]
      have h1 := stmt_ok x 1 st
      have h2 := body_ok l (stmtP x 1 st)
      refine ⟨h1.1.trans h2.1, fun h y hy => ?_⟩
      have hc : (stmtP x 1 st).c = st.c := h1.1.c
      rcases List.mem_cons.1 hy with rfl | hy
      · exact (h1.2 (h2.1.bad h)).mono (h2.1.sig h)
      · have := h2.2 h y hy
        rw [hc] at this; exact this
/-- The arrays. -/
structure Arrs (l : List GSym) (st : Chk) : Prop where
  nodup : (l.map (·.Name)).Nodup
  look : ∀ a ∈ l, lookA st.A a.Name = some a.Arity
  only : ∀ k n, lookA st.A k = some n → ∃ a ∈ l, a.Name = k ∧ a.Arity = n
  ar : ∀ a ∈ l, 0 ≤ a.Arity ∧ a.Arity ≤ 12
theorem arrs_ok : ∀ (l pre : List GSym) (st : Chk) (g : MG), (st.bad = false → Arrs pre st) → (arrsP l st g).1.c = st.c ∧ (arrsP l st g).1.S = st.S ∧ ((arrsP l st g).1.bad = false → st.bad = false ∧ Arrs (pre ++ l) (arrsP l st g).1)
  | [], pre, st, g, h => ⟨rfl, rfl, fun hb => ⟨hb, by rw [List.append_nil]; exact h hb⟩⟩
  | a :: l, pre, st, g, h => by
    rw [arrsP]
    have ih := arrs_ok l (pre ++ [a]) (st.arr a) (gsetA st.A g a.Name) (fun hb => by
      have hn := need_ok hb
      have hb0 : st.bad = false := (ext_need st _).bad hb
      simp only [Bool.and_eq_true, decide_eq_true_eq, Bool.not_eq_true', Option.isSome_eq_false_iff, Option.isNone_iff_eq_none] at hn
      obtain ⟨h1, h2, h3, h4⟩ := h hb0
      have hnew : a.Name ∉ pre.map (·.Name) := fun hm => by
        obtain ⟨b, hb, e⟩ := List.mem_map.1 hm
        have := h2 b hb
        rw [e, hn.1.1.1] at this; cases this
      refine ⟨?_, fun b hb => ?_, fun k n hk => ?_, fun b hb => ?_⟩
      · rw [List.map_append, List.nodup_append]
        exact ⟨h1, by simp, fun x hx y hy e => by simp at hy; subst hy; subst e; exact hnew hx⟩
      · show lookA (setA st.A a.Name a.Arity) b.Name = _
        rw [look_setA]
        rcases List.mem_append.1 hb with hb | hb
        · have hne : ¬ b.Name = a.Name := fun e => hnew (e ▸ List.mem_map_of_mem hb)
          rw [if_neg hne]; exact h2 b hb
        · simp at hb; subst hb; rw [if_pos rfl]
      · have hk' : lookA (setA st.A a.Name a.Arity) k = some n := hk
        rw [look_setA] at hk'
        by_cases e : k = a.Name
        · rw [if_pos e] at hk'; cases hk'; exact ⟨a, by simp, e.symm, rfl⟩
        · rw [if_neg e] at hk'
          obtain ⟨b, hb, h5⟩ := h3 k n hk'
          exact ⟨b, List.mem_append_left _ hb, h5⟩
      · rcases List.mem_append.1 hb with hb | hb
        · exact h4 b hb
        · simp at hb; subst hb; exact ⟨hn.1.2, hn.2⟩)
    refine ⟨ih.1, ih.2.1, fun hb => ?_⟩
    obtain ⟨k1, k2⟩ := ih.2.2 hb
    rw [List.append_assoc] at k2
    exact ⟨(ext_need st _).bad k1, k2⟩
theorem chk_ok {c : GCode} (hb : (checkedP c).bad = false) : ChkOk c := by
  obtain ⟨q1, q2, q3⟩ := arrs_ok c.Arrays [] (chk0 c) ⟨[], 0⟩ (fun _ => ⟨by simp, by simp, (fun k n h => by cases h), by simp⟩)
  obtain ⟨p1, p2⟩ := body_ok c.Body (arrsP c.Arrays (chk0 c) ⟨[], 0⟩).1
  have hb1 := p1.bad hb
  obtain ⟨r1, r2, r3, r4, r5⟩ := q3 hb1
  have h0 := need_ok r1
  simp only [Bool.and_eq_true, decide_eq_true_eq] at h0
  have hc0 : (chk0 c).c = c := rfl
  have hA : (checkedP c).A = (arrsP c.Arrays (chk0 c) ⟨[], 0⟩).1.A := p1.A
  have hinv : Inv (checkedP c) := p1.inv ⟨by rw [q2]; simp [chk0, Chk.need], by rw [q2]; simp [chk0, Chk.need], by rw [q2]; simp [chk0, Chk.need]⟩
  rw [List.nil_append] at r2 r3 r4 r5
  exact {
    flags := ⟨h0.1.1.1.1, h0.1.1.1.2⟩
    regs := ⟨h0.1.1.2, h0.1.2⟩
    keys := hinv.1
    arrs := r2
    apart := fun a ha hm => by have := hinv.2.1 _ hm; rw [hA, r3 a ha] at this; cases this
    look := fun a ha => by rw [hA]; exact r3 a ha
    only := fun k n h => by rw [hA] at h; exact r4 k n h
    ar := r5
    sar := hinv.2.2 hb
    body := by
      have := p2 hb
      rw [q1, hc0] at this
      exact this }
end Go.Proofs.Ytdedkpfbfklgbaa
