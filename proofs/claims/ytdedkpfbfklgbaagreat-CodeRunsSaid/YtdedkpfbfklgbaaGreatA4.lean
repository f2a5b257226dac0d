/- Contracts of the functions, part 4. -/
import Derived.Test.YtdedkpfbfklgbaaGreatA3
import Derived.Test.YtdedkpfbfklgbaaGreatA3
import Derived.Test.YtdedkpfbfklgbaaGreatS2
import Derived.Test.YtdedkpfbfklgbaaGreatA2
import Derived.Test.YtdedkpfbfklgbaaGreatS3
namespace Go.Proofs.YtdedkpfbfklgbaaGreat
open Go.RowKit Go.SX
set_option maxRecDepth 100000
set_option maxHeartbeats 4000000
set_option linter.unusedVariables false
set_option linter.unusedSimpArgs false
theorem Fit.mono {F R : Nat} {sig sig' : ByteArray → Option Nat} {s : GStmt} (h : Fit F R sig s) (hs : ∀ k a, sig k = some a → sig' k = some a) : Fit F R sig' s := { h with
  name := fun hu => let ⟨a, ha⟩ := h.name hu; ⟨a, hs _ _ ha⟩
  store := fun hu => hs _ _ (h.store hu)
  frm := fun hu => by
    obtain ⟨a, ha⟩ := h.name (use_name h.kind (.inr hu))
    rw [hs _ _ ha, hs _ _ ((h.frm hu).trans ha)]
  lit := fun hu => by
    obtain ⟨h1, h2⟩ := h.lit hu
    refine ⟨h1, ?_⟩
    split
    · rename_i hk; rw [if_pos hk] at h2; exact h2
    · rename_i hk; rw [if_neg hk] at h2; exact ⟨h2.1, hs _ _ h2.2⟩ }
theorem SFit.mono {F R : Nat} {sig sig' : ByteArray → Option Nat} (hs : ∀ k a, sig k = some a → sig' k = some a) {s : GStmt} (h : SFit F R sig s) : SFit F R sig' s := by
  induction h with
  | mk h hb he ihb ihe => exact .mk (h.mono hs) ihb ihe
theorem Ext.sig {a b : Chk} (h : Ext a b) (hb : b.bad = false) : ∀ k n, sigS a.A a.S k = some n → sigS b.A b.S k = some n := by
  intro k n hk
  unfold sigS at hk ⊢
  rw [h.A]
  cases hA : lookA a.A k with
  | some x => rw [hA] at hk; exact hk
  | none =>
    rw [hA] at hk
    simp only at hk ⊢
    cases hS : lookA a.S k with
    | none => rw [hS] at hk; cases hk
    | some x => rw [hS] at hk; rw [h.look hb k x hS]; exact hk
theorem enter_ok (st : Chk) (s : GStmt) (level : Int) : Ext st (st.enter s level) ∧ ((st.enter s level).bad = false → 0 ≤ s.Kind ∧ s.Kind < 15) := by
  refine ⟨(⟨rfl, rfl, id, id, fun _ _ _ h => h⟩ : Ext st { st with cnt := st.cnt + 1 }).trans (ext_need _ _), fun h => ?_⟩
  have := need_ok h
  simp only [Bool.and_eq_true, decide_eq_true_eq] at this
  exact this.1.1
mutual
theorem stmt_ok : ∀ (s : GStmt) (level : Int) (st : Chk), Ext st (stmtP s level st) ∧ ((stmtP s level st).bad = false → SFit st.c.Flags.toNat st.c.Regs.toNat (sigS (stmtP s level st).A (stmtP s level st).S) s)
  | ⟨k, f, g, r, n, nm, fr, lit, regs, body, els⟩, level, st => by
    rw [stmtP]
    try simp only
    have h1 := enter_ok st ⟨k, f, g, r, n, nm, fr, lit, regs, body, els⟩ level
    generalize st.enter ⟨k, f, g, r, n, nm, fr, lit, regs, body, els⟩ level = s1 at h1 ⊢
    by_cases hb : s1.bad = true
    · rw [if_pos hb]; exact ⟨h1.1, fun h => by rw [hb] at h; cases h⟩
    · rw [if_neg hb]
      have hb' : s1.bad = false := by simpa using hb
      have h2 := flds_ok s1 ⟨k, f, g, r, n, nm, fr, lit, regs, body, els⟩
      generalize hs2 : s1.flds ⟨k, f, g, r, n, nm, fr, lit, regs, body, els⟩ = s2 at h2 ⊢
      have h3 := list_ok body (level + 1) s2
      have x2 := h1.1.trans h2.1
      by_cases hp : (listP body (level + 1) s2).2 = true
      · rw [if_pos hp]
        refine ⟨x2.trans h3.1, fun h => ?_⟩
        rw [(h3.2 h).1] at hp; cases hp
      · rw [if_neg hp]
        have h4 := list_ok els (level + 1) (listP body (level + 1) s2).1
        have x3 := x2.trans h3.1
        refine ⟨x3.trans h4.1, fun h => ?_⟩
        have b3 := h4.1.bad h
        have b2 := h3.1.bad b3
        have hc1 : s1.c = st.c := h1.1.c
        have hc2 : s2.c = st.c := x2.c
        have hc3 : (listP body (level + 1) s2).1.c = st.c := x3.c
        have g1 := h2.2 b2 (h1.2 hb')
        have g2 := (h3.2 b3).2
        have g3 := (h4.2 h).2
        rw [hc1] at g1
        rw [hc2] at g2
        rw [hc3] at g3
        exact .mk (g1.mono ((h3.1.trans h4.1).sig h)) (fun x hx => (g2 x hx).mono (h4.1.sig h)) g3
theorem list_ok : ∀ (l : List GStmt) (level : Int) (st : Chk), Ext st (listP l level st).1 ∧ ((listP l level st).1.bad = false → (listP l level st).2 = false ∧ ∀ x ∈ l, SFit st.c.Flags.toNat st.c.Regs.toNat (sigS (listP l level st).1.A (listP l level st).1.S) x)
  | [], level, st => by rw [listP]; exact ⟨Ext.refl st, fun _ => ⟨rfl, by simp⟩⟩
  | x :: l, level, st => by
    have h1 := stmt_ok x level st
    rw [listP]
    try simp only
    generalize stmtP x level st = s1 at h1 ⊢
    by_cases hb : s1.bad = true
    · rw [if_pos hb]; exact ⟨h1.1, fun h => by simp only at h; rw [hb] at h; cases h⟩
    · rw [if_neg hb]
      have h2 := list_ok l level s1
      refine ⟨h1.1.trans h2.1, fun h => ⟨(h2.2 h).1, fun y hy => ?_⟩⟩
      have hc : s1.c = st.c := h1.1.c
      rcases List.mem_cons.1 hy with rfl | hy
      · exact (h1.2 (by simpa using hb)).mono (h2.1.sig h)
      · have := (h2.2 h).2 y hy
        rw [hc] at this; exact this
end
theorem body_ok : ∀ (l : List GStmt) (st : Chk), Ext st (bodyP l st) ∧ ((bodyP l st).bad = false → ∀ x ∈ l, SFit st.c.Flags.toNat st.c.Regs.toNat (sigS (bodyP l st).A (bodyP l st).S) x)
  | [], st => ⟨Ext.refl st, fun _ x h => by cases h⟩
  | x :: l, st => by
    rw [bodyP]
    by_cases hb : st.bad = true
    · rw [if_pos hb]; exact ⟨Ext.refl st, fun h => by rw [hb] at h; cases h⟩
    · rw [if_neg hb]
      have h1 := stmt_ok x 1 st
      have h2 := body_ok l (stmtP x 1 st)
      refine ⟨h1.1.trans h2.1, fun h y hy => ?_⟩
      have hc : (stmtP x 1 st).c = st.c := h1.1.c
      rcases List.mem_cons.1 hy with rfl | hy
      · exact (h1.2 (h2.1.bad h)).mono (h2.1.sig h)
      · have := h2.2 h y hy
        rw [hc] at this; exact this
structure Arrs (l : List GSym) (st : Chk) : Prop where
  nodup : (l.map (·.Name)).Nodup
  look : ∀ a ∈ l, lookA st.A a.Name = some a.Arity
  only : ∀ k n, lookA st.A k = some n → ∃ a ∈ l, a.Name = k ∧ a.Arity = n
  ar : ∀ a ∈ l, 0 ≤ a.Arity ∧ a.Arity ≤ 12
theorem arrs_ok : ∀ (l pre : List GSym) (st : Chk) (g : MG), (st.bad = false → Arrs pre st) → (arrsP l st g).1.c = st.c ∧ (arrsP l st g).1.S = st.S ∧ ((arrsP l st g).1.bad = false → st.bad = false ∧ Arrs (pre ++ l) (arrsP l st g).1)
  | [], pre, st, g, h => ⟨rfl, rfl, fun hb => ⟨hb, by rw [List.append_nil]; exact h hb⟩⟩
  | a :: l, pre, st, g, h => by
    rw [arrsP]
    have ih := arrs_ok l (pre ++ [a]) (st.arr a) (gsetA st.A g a.Name) (fun hb => by
      have hn := need_ok hb
      have hb0 : st.bad = false := (ext_need st _).bad hb
      simp only [Bool.and_eq_true, decide_eq_true_eq, Bool.not_eq_true', Option.isSome_eq_false_iff, Option.isNone_iff_eq_none] at hn
      obtain ⟨h1, h2, h3, h4⟩ := h hb0
      have hnew : a.Name ∉ pre.map (·.Name) := fun hm => by
        obtain ⟨b, hb, e⟩ := List.mem_map.1 hm
        have := h2 b hb
        rw [e, hn.1.1.1] at this; cases this
      refine ⟨?_, fun b hb => ?_, fun k n hk => ?_, fun b hb => ?_⟩
      · rw [List.map_append, List.nodup_append]
        exact ⟨h1, by simp, fun x hx y hy e => by simp at hy; subst hy; subst e; exact hnew hx⟩
      · show lookA (setA st.A a.Name a.Arity) b.Name = _
        rw [look_setA]
        rcases List.mem_append.1 hb with hb | hb
        · have hne : ¬ b.Name = a.Name := fun e => hnew (e ▸ List.mem_map_of_mem hb)
          rw [if_neg hne]; exact h2 b hb
        · simp at hb; subst hb; rw [if_pos rfl]
      · have hk' : lookA (setA st.A a.Name a.Arity) k = some n := hk
        rw [look_setA] at hk'
        by_cases e : k = a.Name
        · rw [if_pos e] at hk'; cases hk'; exact ⟨a, by simp, e.symm, rfl⟩
        · rw [if_neg e] at hk'
          obtain ⟨b, hb, h5⟩ := h3 k n hk'
          exact ⟨b, List.mem_append_left _ hb, h5⟩
      · rcases List.mem_append.1 hb with hb | hb
        · exact h4 b hb
        · simp at hb; subst hb; exact ⟨hn.1.2, hn.2⟩)
    refine ⟨ih.1, ih.2.1, fun hb => ?_⟩
    obtain ⟨k1, k2⟩ := ih.2.2 hb
    rw [List.append_assoc] at k2
    exact ⟨(ext_need st _).bad k1, k2⟩
theorem chk_ok {c : GCode} (hb : (checkedP c).bad = false) : ChkOk c := by
  obtain ⟨q1, q2, q3⟩ := arrs_ok c.Arrays [] (chk0 c) ⟨[], 0⟩ (fun _ => ⟨by simp, by simp, (fun k n h => by cases h), by simp⟩)
  obtain ⟨p1, p2⟩ := body_ok c.Body (arrsP c.Arrays (chk0 c) ⟨[], 0⟩).1
  have hb1 := p1.bad hb
  obtain ⟨r1, r2, r3, r4, r5⟩ := q3 hb1
  have h0 := need_ok r1
  simp only [Bool.and_eq_true, decide_eq_true_eq] at h0
  have hc0 : (chk0 c).c = c := rfl
  have hA : (checkedP c).A = (arrsP c.Arrays (chk0 c) ⟨[], 0⟩).1.A := p1.A
  have hinv : Inv (checkedP c) := p1.inv ⟨by rw [q2]; simp [chk0, Chk.need], by rw [q2]; simp [chk0, Chk.need], by rw [q2]; simp [chk0, Chk.need]⟩
  rw [List.nil_append] at r2 r3 r4 r5
  exact {
    flags := ⟨h0.1.1.1.1, h0.1.1.1.2⟩
    regs := ⟨h0.1.1.2, h0.1.2⟩
    keys := hinv.1
    arrs := r2
    apart := fun a ha hm => by have := hinv.2.1 _ hm; rw [hA, r3 a ha] at this; cases this
    look := fun a ha => by rw [hA]; exact r3 a ha
    only := fun k n h => by rw [hA] at h; exact r4 k n h
    ar := r5
    sar := hinv.2.2 hb
    body := by
      have := p2 hb
      rw [q1, hc0] at this
      exact this }
end Go.Proofs.YtdedkpfbfklgbaaGreat
namespace Go.Proofs.YtdedkpfbfklgbaaGreat
open Go.RowKit Go.SX
set_option maxRecDepth 100000
set_option maxHeartbeats 4000000
set_option linter.unusedVariables false
set_option linter.unusedSimpArgs false
def symR (s : GStr) (st : Chk) (k : ByteArray) : List Bool := match lookA st.S k with | some a => tableR s k a | none => []
def arrR (s : GStr) (st : Chk) : List GSym → ByteArray → List Bool
  | [] => symR s st
  | a :: l => upd (arrR s st l) a.Name (List.replicate (powerR s.Size a.Arity).1.toNat false)
def msr (c : GCode) (rels : ByteArray → List Bool) : MS := ⟨List.replicate c.Flags.toNat false, List.replicate c.Regs.toNat 0, rels, 0, 0⟩
theorem arrR_mem {s : GStr} {st : Chk} : ∀ {l : List GSym}, (l.map (·.Name)).Nodup → ∀ a ∈ l, arrR s st l a.Name = List.replicate (powerR s.Size a.Arity).1.toNat false
  | [], _, a, h => by cases h
  | b :: l, hn, a, h => by
    simp only [List.map_cons, List.nodup_cons] at hn
    rw [arrR]
    rcases List.mem_cons.1 h with rfl | h
    · rw [upd_same]
    · rw [upd_ne, arrR_mem hn.2 a h]
      intro e
      exact hn.1 (e ▸ List.mem_map_of_mem h)
theorem arrR_not {s : GStr} {st : Chk} {k : ByteArray} : ∀ {l : List GSym}, k ∉ l.map (·.Name) → arrR s st l k = symR s st k
  | [], _ => rfl
  | b :: l, h => by
    simp only [List.map_cons, List.mem_cons, not_or] at h
    rw [arrR, upd_ne _ _ h.1, arrR_not h.2]
theorem arrR_all {c : GCode} {s : GStr} (hck : ChkOk c) {l : List GSym} (hl : l.Perm c.Arrays) : arrR s (checkedP c) l = initR s (checkedP c) := by
  funext k
  have hnd : (l.map (·.Name)).Nodup := ((hl.map (·.Name)).nodup_iff).2 hck.arrs
  by_cases h : k ∈ l.map (·.Name)
  · obtain ⟨a, ha, rfl⟩ := List.mem_map.1 h
    rw [arrR_mem hnd a ha, initR, hck.look a (hl.mem_iff.1 ha)]
  · rw [arrR_not h, initR, symR]
    cases hA : lookA (checkedP c).A k with
    | none => rfl
    | some n =>
      obtain ⟨a, ha, rfl, _⟩ := hck.only k n hA
      exact (h (List.mem_map_of_mem (hl.mem_iff.2 ha))).elim
theorem sym_mem {A : List (ByteArray × Int)} {k : ByteArray} {n : Int} (h : lookA A k = some n) : (k, n) ∈ A := by
  induction A with
  | nil => cases h
  | cons p A ih =>
    obtain ⟨k', w⟩ := p
    simp only [lookA] at h
    by_cases e : k = k'
    · rw [if_pos e] at h; cases h; subst e; simp
    · rw [if_neg e] at h; exact List.mem_cons_of_mem _ (ih h)
theorem m0_fit {c : GCode} {s : GStr} {G : List Bool} {fuel : Int} (hG : G.length ≤ 4611686018427387904) (hok : RunOk c s fuel) (hck : ChkOk c) (B : Blk) (hnd : B.names.Nodup) (hnm : ∀ k, k ∈ (checkedP c).S.map (·.1) ∨ k ∈ c.Arrays.map (·.Name) → k ∈ B.names) :
    MFit c.Flags.toNat c.Regs.toNat (sigOf c) ⟨s.Size, G, fuel⟩ B (m0 c s) := by
  obtain ⟨v1, v2, v3⟩ := valid_rel hok.valid
  have hfl := hck.flags
  have hrg := hck.regs
  exact {
    n := ⟨v1, v2⟩
    fuel := hok.fuel
    glen := hG
    flen := by simp [m0]
    fl := by omega
    rlen := by simp [m0]
    rl := by omega
    regs := fun x hx => by simp only [m0, List.mem_replicate] at hx; rw [hx.2]; exact ⟨by omega, v1⟩
    used := ⟨by simp [m0], by simp [m0]⟩
    steps := ⟨by simp [m0], hok.fuel.1⟩
    nodup := hnd
    sig := fun k a h => by
      unfold sigOf at h
      show k ∈ B.names ∧ ((initR s (checkedP c) k).length : Int) = s.Size ^ a ∧ s.Size ^ a ≤ 4096
      unfold initR
      cases hA : lookA (checkedP c).A k with
      | some ar =>
        rw [hA] at h
        simp only [Option.some.injEq] at h
        subst h
        obtain ⟨x, hx, rfl, rfl⟩ := hck.only k ar hA
        have hp := power_val (hok.size x hx)
        refine ⟨hnm _ (.inr (List.mem_map_of_mem hx)), ?_, hp.2.1⟩
        simp only [List.length_replicate]
        rw [hp.1]; omega
      | none =>
        rw [hA] at h
        simp only at h
        cases hS : lookA (checkedP c).S k with
        | none => rw [hS] at h; cases h
        | some ar =>
          rw [hS] at h
          simp only [Option.map_some, Option.some.injEq] at h
          subst h
          have hm := sym_mem hS
          obtain ⟨r, hr, hr1, hr2, _⟩ := find_rel (hok.found _ hm)
          have hrb := v3 r (List.mem_of_getElem? hr)
          have hp := power_val (rel_power v1 v2 hrb).1
          have hr2 : r.Arity = ar := hr2
          rw [hr2] at hp
          refine ⟨hnm _ (.inl (List.mem_map_of_mem hm)), ?_, hp.2.1⟩
          simp only [tableR, hr]
          rw [tabGo_len, List.length_replicate, hr2, hp.1]
          omega }
theorem run_t7 (c : GCode) (s : GStr) (G : List Bool) (fuel : Int) (hc : c.Ok) (hG : G.length ≤ 4611686018427387904) (hbad : (checkedP c).bad = false) (hval : validStr s = true) (hfound : ∀ p ∈ (checkedP c).S, 0 ≤ findI s p.1 p.2) (hf : 0 ≤ fuel ∧ fuel ≤ 10000000) (hck : ChkOk c) (b ba bs r1 r2 r3 r4 : Nat) (gA : MG) (B : Blk)
    (hnd : B.names.Nodup) (hnm : ∀ k, k ∈ B.names ↔ k ∈ (checkedP c).S.map (·.1)) (Fr : Rg) (w0 : World) :
    AW (CofD Tryz.prog Tryz.f8 179 Fr (reg []) w0 (RunPost c s G fuel)) [] [.c (fst1 (fst1 (sndN 7 (bodyOf Tryz.f8)))), .c (sndN 1 (fst1 (sndN 7 (bodyOf Tryz.f8)))), .c (sndN 8 (bodyOf Tryz.f8))] (runAF c s G fuel b r1 r2 r3 r4 B.mb) ((checkedP c).ah b ba bs gA ++ resAH r1 r2 r3 r4 false 0 0 0 ++ (msr c (symR s (checkedP c))).ah ⟨s.Size, G, fuel⟩ B) := by
  have hca := hc.2.2.1
  have hal : c.Arrays.length ≤ 4611686018427387904 := by have := hca.1; omega
  repeat' (first | refine AW.re 24 4 ?_ | refine AW.jt ?_ | refine AW.jf ?_ | refine AW.jj (fun hb => ?_) (fun hb => ?_) | refine AW.go ?_ | fail)
  refine AW.prune [2, 3, 4, 5, 8, 9, 10, 11, 12, 15, 135, 136, 137] (AW.loop (fun m af h => ∃ (i : Nat) (B' : Blk), i ≤ c.Arrays.length ∧ m = c.Arrays.length - i ∧ af = runAF c s G fuel b r1 r2 r3 r4 B.mb ++ [(135, .sl (c.Arrays.map GSym.av)), (136, .int .i64 (c.Arrays.map GSym.av).length), (137, .int .i64 i)] ∧ h = (checkedP c).ah b ba bs gA ++ resAH r1 r2 r3 r4 false 0 0 0 ++ (msr c (arrR s (checkedP c) (c.Arrays.take i).reverse)).ah ⟨s.Size, G, fuel⟩ B' ∧ B'.mb = B.mb ∧ B'.names.Nodup ∧ (∀ k, k ∈ B'.names ↔ k ∈ (checkedP c).S.map (·.1) ∨ k ∈ (c.Arrays.take i).map (·.Name)) ∧ ∀ a ∈ c.Arrays.take i, (powerR s.Size a.Arity).2 = 0) c.Arrays.length ⟨0, B, Nat.zero_le _, rfl, rfl, rfl, rfl, hnd, by simpa using hnm, by simp⟩ ?_)
  rintro m af h ⟨i, B', hi, rfl, rfl, rfl, hmb, hnd', hnm', hsz⟩
  refine AW.seq ?_
  by_cases hlt : i < c.Arrays.length
  · obtain ⟨x, hx⟩ := get_lt hlt
    have hx' : (c.Arrays.map GSym.av)[((i : Nat) : Int).toNat]? = some x.av := map_get hx
    have hxm := List.mem_of_getElem? hx
    have hpw := shape_Power s.Size x.Arity
    repeat' (first | refine AW.re 25 1 ?_ | (refine AW.r 26 ?_ <;> refine AL.d (AOp.index_sl rfl rfl (by omega) hx' (by kernel_rfl) rfl) ?_ <;> refine AL.es 1 ?_ <;> refine AL.alloc_store (by kernel_rfl) rfl rfl rfl rfl ?_ <;> refine AL.nil ?_) | (refine AW.r 27 ?_ <;> refine AL.es 4 ?_ <;> refine AL.d (AOp.call rfl rfl (hpw.pure _)) ?_ <;> refine AL.es 5 ?_ <;> refine AL.nil ?_) | refine AW.re 28 2 ?_ | refine AW.jt ?_ | refine AW.jf ?_ | refine AW.jj (fun hb => ?_) (fun hb => ?_) | refine AW.go ?_ | fail)
    all_goals try (exfalso; simp only [decide_eq_true_eq, decide_eq_false_iff_not, List.length_map] at *; omega)
    · repeat' (first | (refine AW.r 29 ?_ <;> (first | refine AL.sl 0 ?_ | refine AL.sl 1 ?_ | refine AL.sl 2 ?_ | refine AL.sl 3 ?_ | refine AL.sl 4 ?_ | refine AL.sl 5 ?_ | refine AL.sl 6 ?_) <;> (first | refine AL.sl 0 ?_ | refine AL.sl 1 ?_ | refine AL.sl 2 ?_ | refine AL.sl 3 ?_ | refine AL.sl 4 ?_ | refine AL.sl 5 ?_ | refine AL.sl 6 ?_) <;> (first | refine AL.sl 0 ?_ | refine AL.sl 1 ?_ | refine AL.sl 2 ?_ | refine AL.sl 3 ?_ | refine AL.sl 4 ?_ | refine AL.sl 5 ?_ | refine AL.sl 6 ?_) <;> (first | refine AL.sl 0 ?_ | refine AL.sl 1 ?_ | refine AL.sl 2 ?_ | refine AL.sl 3 ?_ | refine AL.sl 4 ?_ | refine AL.sl 5 ?_ | refine AL.sl 6 ?_) <;> refine AL.nil ?_) | refine AW.jt ?_ | refine AW.jf ?_ | refine AW.jj (fun hb => ?_) (fun hb => ?_) | refine AW.go ?_ | fail)
      exact AW.retD0 (.cell 3 rfl rfl (by kernel_rfl) (.cell 4 rfl rfl (by kernel_rfl) (.cell 5 rfl rfl (by kernel_rfl) (.cell 6 rfl rfl (by kernel_rfl) .nil)))) ⟨_, _, _, _, .size hbad hval hfound hf x hxm (by simpa using hb), rfl⟩
    · have hp0 : (powerR s.Size x.Arity).2 = 0 := by simpa using hb
      have hpv := power_val hp0
      have hVx : (some (AV.int .i64 (powerR s.Size x.Arity).1)) = some (AV.int .i64 ((powerR s.Size x.Arity).1.toNat : Nat)) := by rw [Int.toNat_of_nonneg (by rw [hpv.1]; exact hpv.2.2)]
      have hVb : (powerR s.Size x.Arity).1.toNat ≤ 4096 := by rw [hpv.1]; omega
      have htk : c.Arrays.take (i + 1) = c.Arrays.take i ++ [x] := by rw [List.take_add_one, hx]; rfl
      have hnew : x.Name ∉ B'.names := by
        rw [hnm']
        rintro (h | h)
        · exact hck.apart x hxm h
        · have h1 := hck.arrs
          rw [← List.take_append_drop i c.Arrays, drop_cons hx, List.map_append, List.nodup_append] at h1
          exact h1.2.2 _ h _ (by simp) rfl
      refine AW.prune [2, 3, 4, 5, 8, 9, 10, 11, 12, 15, 25, 26, 135, 136, 137] ?_
      have hmbx : (some (AV.ref B.mb 0)) = some (AV.ref B'.mb 0) := by rw [hmb]
      refine AW.explore [false, false, false, false, false, false, false, false, false, false, true] [7, 8] rfl (by kernel_rfl) (by kernel_rfl) (by kernel_rfl) (by kernel_rfl) ?_
      refine AQE.ev rfl (show evalOp _ _ = some (AV.ref B'.mb 0) from hmbx) rfl rfl ?_
      repeat' (first
        | refine AQE.hole rfl rfl ?_
        | refine AQE.ev rfl rfl rfl rfl ?_
        | refine AQE.op rfl (AOp.field_at rfl rfl (by kernel_rfl) rfl) rfl rfl ?_
        | refine AQE.op rfl (AOp.field_ref (k := 3) (off := 3) rfl (by kernel_rfl)) rfl rfl ?_
        | refine AQE.op rfl (AOp.load_at rfl rfl (by kernel_rfl)) rfl rfl ?_
        | refine AQE.op rfl (AOp.load_leaf 7 rfl rfl rfl rfl (by kernel_rfl)) rfl rfl ?_
        | refine AQE.nil ?_)
      refine AX.one (n := 1) 7 rfl ?_
      refine AXS.new (i := 7) rfl rfl rfl (AOp.makeSlice (n := (powerR s.Size x.Arity).1.toNat) (e := 4) (c := .bool false) (z := .bool false) (bytes := 1) hVx hVx (by kernel_rfl) rfl (by omega) (by omega)) (fun nb => ?_)
      dsimp only [List.set_cons_succ, List.set_cons_zero]
      refine AX.one (n := 0) 8 rfl ?_
      refine AXS.step (i := 8) rfl rfl rfl (AOp.mapUpdate (i := 1) (kd := .string) (e := 29) (k := .str x.Name) (v := .osl nb (powerR s.Size x.Arity).1.toNat (powerR s.Size x.Arity).1.toNat) rfl rfl rfl rfl (by kernel_rfl) rfl (keysOK_kvW _ _)) ?_ (by rintro _ _ ⟨⟨_, e⟩, _⟩; cases e)
      rintro _ _ ⟨⟨_, e⟩, rfl⟩
      dsimp only [List.set_cons_succ, List.set_cons_zero]
      refine AX.done [(2, bools G), (3, .int .i64 fuel), (4, .at c.av), (5, .at s.av), (8, .ref r1 0), (9, .ref r2 0), (10, .ref r3 0), (11, .ref r4 0), (12, .ref b 0), (15, .ref B.mb 0), (135, .sl (c.Arrays.map GSym.av)), (136, .int .i64 (c.Arrays.map GSym.av).length), (137, .int .i64 i)] rfl ?_
      refine AW.perm (ah_new ⟨s.Size, G, fuel⟩ B' (msr c (arrR s (checkedP c) (c.Arrays.take i).reverse)) ((checkedP c).ah b ba bs gA ++ resAH r1 r2 r3 r4 false 0 0 0) hnew nb (List.replicate (powerR s.Size x.Arity).1.toNat false) _ (List.length_replicate ..).symm _ (List.map_replicate ..).symm) ?_
      repeat' (first | (refine AW.r 31 ?_ <;> refine AL.d AOp.ad ?_ <;> refine AL.es 1 ?_ <;> refine AL.nil ?_) | refine AW.jt ?_ | refine AW.jf ?_ | refine AW.jj (fun hb => ?_) (fun hb => ?_) | refine AW.go ?_ | fail)
      refine AW.again_keep (c.Arrays.length - (i + 1)) [2, 3, 4, 5, 8, 9, 10, 11, 12, 15, 135, 136, 137] (by omega) ⟨i + 1, B'.add x.Name nb (gset (kvW oslv (relA B' (msr c (arrR s (checkedP c) (c.Arrays.take i).reverse)))) B'.gl (.str x.Name)), hlt, rfl, rfl, ?_, hmb, ?_, ?_, ?_⟩
      · rw [htk, List.reverse_append]; rfl
      · show (B'.names ++ [x.Name]).Nodup
        rw [List.nodup_append]
        exact ⟨hnd', by simp, fun a ha b hb e => by simp at hb; subst hb; subst e; exact hnew ha⟩
      · intro k
        show k ∈ B'.names ++ [x.Name] ↔ _
        rw [htk, List.map_append, List.mem_append, List.mem_append, hnm', or_assoc]
        rfl
      · intro a ha
        rw [htk] at ha
        rcases List.mem_append.1 ha with h | h
        · exact hsz a h
        · simp at h; subst h; exact hp0
  · have hi2 : i = c.Arrays.length := by omega
    subst hi2
    rw [List.take_length] at hnm' hsz
    repeat' (first | refine AW.re 25 1 ?_ | refine AW.jt ?_ | refine AW.jf ?_ | refine AW.jj (fun hb => ?_) (fun hb => ?_) | refine AW.go ?_ | fail)
    all_goals try (exfalso; simp only [decide_eq_true_eq, decide_eq_false_iff_not, List.length_map] at *; omega)
    have hok : RunOk c s fuel := ⟨hbad, hval, hfound, hf, hsz⟩
    have hm := m0_fit hG hok hck B' hnd' fun k h => (hnm' k).2 h
    have e : msr c (arrR s (checkedP c) c.Arrays.reverse) = m0 c s := by rw [arrR_all hck (List.reverse_perm _)]; rfl
    rw [List.take_length, e]
    have h8 := run_t8 c s G fuel hc hok hck b ba bs r1 r2 r3 r4 gA B' hm Fr w0
    rw [hmb] at h8
    exact AW.prune [2, 3, 4, 5, 8, 9, 10, 11, 12, 15] h8
end Go.Proofs.YtdedkpfbfklgbaaGreat
namespace Go.Proofs.YtdedkpfbfklgbaaGreat
open Go.RowKit Go.SX
set_option maxRecDepth 100000
set_option maxHeartbeats 4000000
set_option linter.unusedVariables false
set_option linter.unusedSimpArgs false
theorem upd_upd (f : ByteArray → List Bool) (k : ByteArray) (xs ys : List Bool) : upd (upd f k xs) k ys = upd f k ys := by
  funext a
  by_cases h : a = k
  · subst h; simp [upd_same]
  · simp [upd_ne _ _ h]
theorem look_mem {A : List (ByteArray × Int)} (hn : (A.map (·.1)).Nodup) {p : ByteArray × Int} (h : p ∈ A) : lookA A p.1 = some p.2 := by
  induction A with
  | nil => cases h
  | cons q A ih =>
    obtain ⟨k', w⟩ := q
    simp only [List.map_cons, List.nodup_cons] at hn
    rw [lookA]
    rcases List.mem_cons.1 h with rfl | h
    · simp
    · have hne : ¬ p.1 = k' := fun e => hn.1 (e ▸ List.mem_map_of_mem h)
      rw [if_neg hne, ih hn.2 h]
theorem look_none {A : List (ByteArray × Int)} {k : ByteArray} (h : k ∉ A.map (·.1)) : lookA A k = none := by
  cases e : lookA A k with
  | none => rfl
  | some n => exact (h (List.mem_map_of_mem (sym_mem e))).elim
theorem run_t6 (c : GCode) (s : GStr) (G : List Bool) (fuel : Int) (hc : c.Ok) (hs : s.Ok) (hG : G.length ≤ 4611686018427387904) (hbad : (checkedP c).bad = false) (hval : validStr s = true) (hfound : ∀ p ∈ (checkedP c).S, 0 ≤ findI s p.1 p.2) (hf : 0 ≤ fuel ∧ fuel ≤ 10000000) (hck : ChkOk c) (b ba bs r1 r2 r3 r4 : Nat) (gA : MG) (B : Blk)
    (hB : B.names = []) (Fr : Rg) (w0 : World) :
    AW (CofD Tryz.prog Tryz.f8 179 Fr (reg []) w0 (RunPost c s G fuel)) [] [.c (fst1 (fst1 (sndN 6 (bodyOf Tryz.f8)))), .c (sndN 1 (fst1 (sndN 6 (bodyOf Tryz.f8)))), .c (sndN 7 (bodyOf Tryz.f8))] (runAF c s G fuel b r1 r2 r3 r4 B.mb) ((checkedP c).ah b ba bs gA ++ resAH r1 r2 r3 r4 false 0 0 0 ++ (msr c fun _ => []).ah ⟨s.Size, G, fuel⟩ B) := by
  obtain ⟨v1, v2, v3⟩ := valid_rel hval
  have hrl : s.Rels.length ≤ 4611686018427387904 := by obtain ⟨_, h2, _⟩ := hs; omega
  have hs3 := hs.2.2
  repeat' (first | (refine AW.r 12 ?_ <;> refine AL.es 2 ?_ <;> (first | refine AL.d AOp.fa ?_ | refine AL.d (AOp.fr 5) ?_) <;> (first | refine AL.d AOp.la ?_ | refine AL.d (AOp.ll 0) ?_ | refine AL.d (AOp.ll 1) ?_ | refine AL.d (AOp.ll 2) ?_ | refine AL.d (AOp.ll 3) ?_ | refine AL.d (AOp.ll 4) ?_ | refine AL.d (AOp.ll 5) ?_ | refine AL.d (AOp.ll 6) ?_) <;> refine AL.range 2 3 .string rfl rfl (by kernel_rfl) rfl fun it => ?_ <;> refine AL.nil ?_) | refine AW.jt ?_ | refine AW.jf ?_ | refine AW.jj (fun hb => ?_) (fun hb => ?_) | refine AW.go ?_ | fail)
  refine AW.prune [2, 3, 4, 5, 8, 9, 10, 11, 12, 15, 78] (AW.loop (fun m af h => ∃ (idx : List Nat) (B' : Blk) (rl : ByteArray → List Bool), idx.Nodup ∧ (∀ k ∈ idx, k < (checkedP c).S.length) ∧ m = (checkedP c).S.length - idx.length ∧ af = runAF c s G fuel b r1 r2 r3 r4 B.mb ++ [(78, .ref it 0)] ∧ h = .iter it bs (checkedP c).gS.clk (seenOf (checkedP c).gS idx) :: ((checkedP c).ah b ba bs gA ++ resAH r1 r2 r3 r4 false 0 0 0 ++ (msr c rl).ah ⟨s.Size, G, fuel⟩ B') ∧ B'.mb = B.mb ∧ B'.names.Nodup ∧ (∀ k, k ∈ B'.names ↔ ∃ j ∈ idx, ∃ p, (checkedP c).S[j]? = some p ∧ p.1 = k) ∧ (∀ k ∈ B'.names, rl k = symR s (checkedP c) k) ∧ ∀ k, k ∉ B'.names → rl k = []) (checkedP c).S.length ⟨[], B, fun _ => [], List.nodup_nil, by simp, by simp, rfl, rfl, rfl, by rw [hB]; exact List.nodup_nil, by rw [hB]; simp, by rw [hB]; simp, fun _ _ => rfl⟩ ?_)
  rintro m af h ⟨idx, B', rl, hnd, hbd, rfl, rfl, rfl, hmb, hnd', hnm', hrl1, hrl2⟩
  refine AW.seq ?_
  have hbd' : ∀ k ∈ idx, k < (kvW iav (checkedP c).S).length := by rw [kvW_length]; exact hbd
  repeat' (first | (refine AW.r 13 ?_ <;> refine AL.next 3 0 idx rfl rfl rfl hbd' rfl (fun hall => ?_) (fun k key v hk1 hk2 => ?_) <;> refine AL.es 1 ?_ <;> refine AL.nil ?_) | refine AW.jt ?_ | refine AW.jf ?_ | refine AW.jj (fun hb => ?_) (fun hb => ?_) | refine AW.go ?_ | fail)
  · have hall' : ∀ k, k ∈ B'.names ↔ k ∈ (checkedP c).S.map (·.1) := by
      intro k
      rw [hnm']
      constructor
      · rintro ⟨j, _, p, hp, rfl⟩; exact List.mem_map_of_mem (List.mem_of_getElem? hp)
      · intro h
        obtain ⟨p, hp, rfl⟩ := List.mem_map.1 h
        obtain ⟨j, hj⟩ := List.getElem?_of_mem hp
        exact ⟨j, hall j (by rw [kvW_length]; exact (List.getElem?_eq_some_iff.1 hj).1), p, hj, rfl⟩
    have e : rl = symR s (checkedP c) := by
      funext k
      by_cases h : k ∈ B'.names
      · exact hrl1 k h
      · rw [hrl2 k h, symR, look_none (fun h' => h ((hall' k).2 h'))]
    subst e
    refine AW.drop (List.sublist_cons_self _ _) ?_
    have h7 := run_t7 c s G fuel hc hG hbad hval hfound hf hck b ba bs r1 r2 r3 r4 gA B' hnd' hall' Fr w0
    rw [hmb] at h7
    exact AW.prune [2, 3, 4, 5, 8, 9, 10, 11, 12, 15] h7
  obtain ⟨p, hp, rfl, rfl⟩ := kvW_get hk2
  have hpm := List.mem_of_getElem? hp
  have hpl : k < (checkedP c).S.length := (List.getElem?_eq_some_iff.1 hp).1
  have hfi := shape_Find s hrl p.1 p.2
  have hlk := look_mem hck.keys hpm
  obtain ⟨r, hr, hr1, hr2, hr3⟩ := find_rel (hfound p hpm)
  have hr' : (s.Rels.map GRel.av)[(findI s p.1 p.2).toNat]? = some r.av := map_get hr
  have hrm := List.mem_of_getElem? hr
  have hrb := v3 r hrm
  have hro := hs3 r hrm
  have hf0 := hfound p hpm
  have hlen := nodup_bound (checkedP c).S.length (idx ++ [k]) (nodup_snoc hnd hk1) (by intro j hj; rcases List.mem_append.1 hj with h | h; exact hbd j h; simp at h; omega)
  simp only [List.length_append, List.length_singleton] at hlen
  repeat' (first | (refine AW.r 14 ?_ <;> refine AL.d (AOp.entry (i := 3) (j := 0) (k := k) rfl rfl rfl hk2) ?_ <;> refine AL.es 2 ?_ <;> refine AL.nil ?_) | refine AW.jt ?_ | refine AW.jf ?_ | refine AW.jj (fun hb => ?_) (fun hb => ?_) | refine AW.go ?_ | fail)
  refine AW.prune [2, 3, 4, 5, 8, 9, 10, 11, 12, 15, 16, 78] ?_
  refine AW.explore [] [13, 14] rfl (by kernel_rfl) (by kernel_rfl) (by kernel_rfl) (by kernel_rfl) ?_
  repeat' (first
    | refine AQE.hole rfl rfl ?_
    | refine AQE.ev rfl rfl rfl rfl ?_
    | refine AQE.op rfl (AOp.field_at rfl rfl (by kernel_rfl) rfl) rfl rfl ?_
    | refine AQE.op rfl (AOp.field_ref (k := 2) (off := 5) rfl (by kernel_rfl)) rfl rfl ?_
    | refine AQE.op rfl (AOp.load_at rfl rfl (by kernel_rfl)) rfl rfl ?_
    | refine AQE.op rfl (AOp.load_leaf 1 rfl rfl rfl rfl (by kernel_rfl)) rfl rfl ?_
    | refine AQE.op rfl (AOp.lookS_hit (g := iav) (ok := false) 3 3 hlk rfl rfl rfl (by kernel_rfl)) rfl rfl ?_
    | refine AQE.op rfl (AOp.call rfl rfl (hfi.pure _)) rfl rfl ?_
    | refine AQE.op rfl (AOp.index_sl rfl rfl (by omega) hr' (by kernel_rfl) rfl) rfl rfl ?_
    | refine AQE.nil ?_)
  refine AX.one (n := 1) 13 rfl ?_
  refine AXS.new (i := 13) rfl rfl rfl (AOp.alloc (t := 56) (z := .st [.str ⟨#[]⟩, .int .i64 0, .sl []]) (by kernel_rfl) rfl) (fun br => ?_)
  dsimp only [List.set_cons_succ, List.set_cons_zero]
  refine AX.one (n := 0) 14 rfl ?_
  refine AXS.step (i := 14) rfl rfl rfl (AOp.store_box (i := 0) (g := true) (v := r.av) (c' := r.av) rfl rfl rfl rfl rfl (by kernel_rfl)) ?_ (by rintro _ _ ⟨⟨_, e⟩, _⟩; cases e)
  rintro _ _ ⟨⟨_, e⟩, rfl⟩
  dsimp only [List.set_cons_succ, List.set_cons_zero]
  refine AX.done [(2, bools G), (3, .int .i64 fuel), (4, .at c.av), (5, .at s.av), (8, .ref r1 0), (9, .ref r2 0), (10, .ref r3 0), (11, .ref r4 0), (12, .ref b 0), (15, .ref B.mb 0), (16, .str p.1), (17, .ref br 0), (78, .ref it 0)] rfl ?_
  refine AW.freeze 0 17 (b := br) (c := r.av) rfl rfl ?_
  refine AW.frame_eq (ah' := Own.iter it bs (checkedP c).gS.clk (seenOf (checkedP c).gS (idx ++ [k])) :: ((checkedP c).ah b ba bs gA ++ resAH r1 r2 r3 r4 false 0 0 0 ++ (msr c rl).ah ⟨s.Size, G, fuel⟩ B')) rfl rfl ?_
  clear e
  have hpw := shape_Power s.Size r.Arity
  have hp0 := rel_power v1 v2 hrb
  have hpv := power_val hp0.1
  have hVx : (some (AV.int .i64 (powerR s.Size r.Arity).1)) = some (AV.int .i64 ((powerR s.Size r.Arity).1.toNat : Nat)) := by rw [Int.toNat_of_nonneg (by rw [hpv.1]; exact hpv.2.2)]
  have hVb : (powerR s.Size r.Arity).1.toNat ≤ 4096 := by rw [hpv.1]; omega
  have hnew : p.1 ∉ B'.names := by
    rw [hnm']
    rintro ⟨j, hj, q, hq, e⟩
    have hjl : j < (checkedP c).S.length := (List.getElem?_eq_some_iff.1 hq).1
    have : j = k := (List.getElem?_inj (l := (checkedP c).S.map (·.1)) (by simpa using hjl) hck.keys).1 (by simp [hq, hp, e])
    subst this
    exact hk1 hj
  repeat' (first | (refine AW.r 16 ?_ <;> refine AL.es 4 ?_ <;> refine AL.d (AOp.call rfl rfl (hpw.pure _)) ?_ <;> refine AL.es 5 ?_ <;> refine AL.nil ?_) | refine AW.jt ?_ | refine AW.jf ?_ | refine AW.jj (fun hb => ?_) (fun hb => ?_) | refine AW.go ?_ | fail)
  refine AW.prune [2, 3, 4, 5, 8, 9, 10, 11, 12, 15, 16, 17, 18, 78] ?_
  have hmbx : (some (AV.ref B.mb 0)) = some (AV.ref B'.mb 0) := by rw [hmb]
  refine AW.explore [false, false, false, false, false, false, false, false, false, false, false, true] [6, 7] rfl (by kernel_rfl) (by kernel_rfl) (by kernel_rfl) (by kernel_rfl) ?_
  refine AQE.ev rfl (show evalOp _ _ = some (AV.ref B'.mb 0) from hmbx) rfl rfl ?_
  repeat' (first
    | refine AQE.hole rfl rfl ?_
    | refine AQE.ev rfl rfl rfl rfl ?_
    | refine AQE.op rfl (AOp.field_ref (k := 3) (off := 3) rfl (by kernel_rfl)) rfl rfl ?_
    | refine AQE.op rfl (AOp.load_leaf 8 rfl rfl rfl rfl (by kernel_rfl)) rfl rfl ?_
    | refine AQE.nil ?_)
  refine AX.one (n := 1) 6 rfl ?_
  refine AXS.new (i := 6) rfl rfl rfl (AOp.makeSlice (n := (powerR s.Size r.Arity).1.toNat) (e := 4) (c := .bool false) (z := .bool false) (bytes := 1) hVx hVx (by kernel_rfl) rfl (by omega) (by omega)) (fun nb => ?_)
  dsimp only [List.set_cons_succ, List.set_cons_zero]
  refine AX.one (n := 0) 7 rfl ?_
  refine AXS.step (i := 7) rfl rfl rfl (AOp.mapUpdate (i := 1) (kd := .string) (e := 29) (k := .str p.1) (v := .osl nb (powerR s.Size r.Arity).1.toNat (powerR s.Size r.Arity).1.toNat) rfl rfl rfl rfl (by kernel_rfl) rfl (keysOK_kvW _ _)) ?_ (by rintro _ _ ⟨⟨_, e⟩, _⟩; cases e)
  rintro _ _ ⟨⟨_, e⟩, rfl⟩
  dsimp only [List.set_cons_succ, List.set_cons_zero]
  refine AX.done [(2, bools G), (3, .int .i64 fuel), (4, .at c.av), (5, .at s.av), (8, .ref r1 0), (9, .ref r2 0), (10, .ref r3 0), (11, .ref r4 0), (12, .ref b 0), (15, .ref B.mb 0), (16, .str p.1), (17, .at r.av), (78, .ref it 0)] rfl ?_
  clear e
  refine AW.perm (ah_new ⟨s.Size, G, fuel⟩ B' (msr c rl) (Own.iter it bs (checkedP c).gS.clk (seenOf (checkedP c).gS (idx ++ [k])) :: ((checkedP c).ah b ba bs gA ++ resAH r1 r2 r3 r4 false 0 0 0)) hnew nb (List.replicate (powerR s.Size r.Arity).1.toNat false) _ (List.length_replicate ..).symm _ (List.map_replicate ..).symm) ?_
  generalize hB2 : B'.add p.1 nb _ = B2
  have hmb2 : B2.mb = B.mb := by rw [← hB2]; exact hmb
  have hnm2 : B2.names = B'.names ++ [p.1] := by rw [← hB2]; rfl
  have hnd2 : B2.names.Nodup := by
    rw [hnm2, List.nodup_append]
    exact ⟨hnd', by simp, fun a ha b hb e => by simp at hb; subst hb; subst e; exact hnew ha⟩
  clear hB2
  have hin : p.1 ∈ B2.names := by rw [hnm2]; simp
  have htl : r.Tuples.length ≤ 4611686018427387904 := by have := hro.2.2.1; omega
  have htup : ∀ t ∈ r.Tuples, t.length ≤ 4611686018427387904 := fun t ht => by have := (hro.2.2.2 t ht).1; omega
  repeat' (first | refine AW.re 18 4 ?_ | refine AW.jt ?_ | refine AW.jf ?_ | refine AW.jj (fun hb => ?_) (fun hb => ?_) | refine AW.go ?_ | fail)
  refine AW.prune [2, 3, 4, 5, 8, 9, 10, 11, 12, 15, 16, 78, 112, 113, 114] (AW.loop (fun m af h => ∃ (j : Nat) (cur : List Bool), j ≤ r.Tuples.length ∧ m = r.Tuples.length - j ∧ af = [(2, bools G), (3, .int .i64 fuel), (4, .at c.av), (5, .at s.av), (8, .ref r1 0), (9, .ref r2 0), (10, .ref r3 0), (11, .ref r4 0), (12, .ref b 0), (15, .ref B.mb 0), (16, .str p.1), (78, .ref it 0), (112, .sl (r.Tuples.map ints)), (113, .int .i64 (r.Tuples.map ints).length), (114, .int .i64 j)] ∧ h = Own.iter it bs (checkedP c).gS.clk (seenOf (checkedP c).gS (idx ++ [k])) :: ((checkedP c).ah b ba bs gA ++ resAH r1 r2 r3 r4 false 0 0 0) ++ (msr c (upd rl p.1 cur)).ah ⟨s.Size, G, fuel⟩ B2 ∧ cur.length = (powerR s.Size r.Arity).1.toNat ∧ tabGo s.Size r.Tuples (List.replicate (powerR s.Size r.Arity).1.toNat false) = tabGo s.Size (r.Tuples.drop j) cur) r.Tuples.length ⟨0, _, Nat.zero_le _, rfl, rfl, rfl, List.length_replicate .., rfl⟩ ?_)
  rintro m af h ⟨j, cur, hj, rfl, rfl, rfl, hcl, he⟩
  refine AW.seq ?_
  by_cases hlt : j < r.Tuples.length
  · obtain ⟨t, ht⟩ := get_lt hlt
    have ht' : (r.Tuples.map ints)[((j : Nat) : Int).toNat]? = some (ints t) := map_get ht
    have htm := List.mem_of_getElem? ht
    rw [drop_cons ht, tabGo] at he
    have hrk := shape_Rank s.Size t (htup t htm)
    have hbd2 := rank_bd v1 v2 hrb htm
    have hcl2 : ((upd rl p.1 cur p.1).length : Int) = s.Size ^ r.Arity.toNat := by rw [upd_same, hcl, hpv.1, Int.toNat_of_nonneg hpv.2.2]
    obtain ⟨jr, hjr, hrow⟩ := row_at ⟨s.Size, G, fuel⟩ B2 (msr c (upd rl p.1 cur)) hin
    have hlk2 := look_rel B2 (msr c (upd rl p.1 cur)) hin
    have hrow' : (Own.iter it bs (checkedP c).gS.clk (seenOf (checkedP c).gS (idx ++ [k])) :: ((checkedP c).ah b ba bs gA ++ resAH r1 r2 r3 r4 false 0 0 0) ++ (msr c (upd rl p.1 cur)).ah ⟨s.Size, G, fuel⟩ B2)[jr + 13]? = some (.row (B2.bk p.1) ((upd rl p.1 cur p.1).map bav)) := hrow
    rw [hmb2.symm]
    repeat' (first | refine AW.re 19 1 ?_ | (refine AW.r 20 ?_ <;> (first | refine AL.d (AOp.index_sl rfl rfl (by omega) ht' (by kernel_rfl) rfl) ?_ | (refine AL.d (AOp.index_osl rfl rfl (by omega) (by show (rankR s.Size t).1 < ((upd rl p.1 cur p.1).length : Int); omega) (by kernel_rfl)) ?_)) <;> (first | refine AL.d AOp.la ?_ | refine AL.d (AOp.ll 0) ?_ | refine AL.d (AOp.ll 1) ?_ | refine AL.d (AOp.ll 2) ?_ | refine AL.d (AOp.ll 3) ?_ | refine AL.d (AOp.ll 4) ?_ | refine AL.d (AOp.ll 5) ?_ | refine AL.d (AOp.ll 6) ?_ | refine AL.d (AOp.ll 7) ?_ | refine AL.d (AOp.ll 8) ?_) <;> refine AL.es 1 ?_ <;> refine AL.nil ?_) | (refine AW.r 21 ?_ <;> (first | refine AL.d AOp.fa ?_ | refine AL.d (AOp.fr 0) ?_) <;> (first | refine AL.d AOp.la ?_ | refine AL.d (AOp.ll 0) ?_ | refine AL.d (AOp.ll 1) ?_ | refine AL.d (AOp.ll 2) ?_ | refine AL.d (AOp.ll 3) ?_ | refine AL.d (AOp.ll 4) ?_ | refine AL.d (AOp.ll 5) ?_ | refine AL.d (AOp.ll 6) ?_ | refine AL.d (AOp.ll 7) ?_ | refine AL.d (AOp.ll 8) ?_) <;> refine AL.es 1 ?_ <;> refine AL.d (AOp.call rfl rfl (hrk.pure _)) ?_ <;> refine AL.es 5 ?_ <;> refine AL.nil ?_) | (refine AW.r 22 ?_ <;> refine AL.es 2 ?_ <;> (first | refine AL.d AOp.fa ?_ | refine AL.d (AOp.fr 3) ?_) <;> (first | refine AL.d AOp.la ?_ | refine AL.d (AOp.ll 0) ?_ | refine AL.d (AOp.ll 1) ?_ | refine AL.d (AOp.ll 2) ?_ | refine AL.d (AOp.ll 3) ?_ | refine AL.d (AOp.ll 4) ?_ | refine AL.d (AOp.ll 5) ?_ | refine AL.d (AOp.ll 6) ?_ | refine AL.d (AOp.ll 7) ?_ | refine AL.d (AOp.ll 8) ?_) <;> refine AL.es 1 ?_ <;> refine AL.d (AOp.lookS_hit (g := oslv) (ok := false) 11 29 hlk2 rfl rfl rfl (by kernel_rfl)) ?_ <;> refine AL.es 1 ?_ <;> (first | refine AL.d (AOp.index_sl rfl rfl (by omega) ht' (by kernel_rfl) rfl) ?_ | (refine AL.d (AOp.index_osl rfl rfl (by omega) (by show (rankR s.Size t).1 < ((upd rl p.1 cur p.1).length : Int); omega) (by kernel_rfl)) ?_)) <;> (first | (refine AL.store_cell (jr + 13) rfl rfl hrow' (by simp; omega) rfl rfl (by kernel_rfl) ?_) | refine AL.sl 0 ?_ | refine AL.sl 1 ?_ | refine AL.sl 2 ?_ | refine AL.sl 3 ?_ | refine AL.sl 4 ?_ | refine AL.sl 5 ?_ | refine AL.sl 6 ?_ | refine AL.sl 7 ?_ | refine AL.sl 8 ?_) <;> refine AL.nil ?_) | refine AW.jt ?_ | refine AW.jf ?_ | refine AW.jj (fun hb => ?_) (fun hb => ?_) | refine AW.go ?_ | fail)
    all_goals try (exfalso; simp only [decide_eq_true_eq, decide_eq_false_iff_not, List.length_map] at *; omega)
    have hset : (Own.iter it bs (checkedP c).gS.clk (seenOf (checkedP c).gS (idx ++ [k])) :: ((checkedP c).ah b ba bs gA ++ resAH r1 r2 r3 r4 false 0 0 0) ++ (msr c (upd rl p.1 cur)).ah ⟨s.Size, G, fuel⟩ B2).set (jr + 13) (.row (B2.bk p.1) (((upd rl p.1 cur p.1).map bav).set (rankR s.Size t).1.toNat (.bool true))) = Own.iter it bs (checkedP c).gS.clk (seenOf (checkedP c).gS (idx ++ [k])) :: ((checkedP c).ah b ba bs gA ++ resAH r1 r2 r3 r4 false 0 0 0) ++ (msr c (upd rl p.1 (cur.set (rankR s.Size t).1.toNat true))).ah ⟨s.Size, G, fuel⟩ B2 := by
      have h1 := ah_setrow ⟨s.Size, G, fuel⟩ B2 (msr c (upd rl p.1 cur)) hnd2 hjr ((upd rl p.1 cur p.1).set (rankR s.Size t).1.toNat true) (by simp [msr])
      rw [List.map_set] at h1
      have h2 : ({ msr c (upd rl p.1 cur) with rels := upd (msr c (upd rl p.1 cur)).rels p.1 ((upd rl p.1 cur p.1).set (rankR s.Size t).1.toNat true) } : MS) = msr c (upd rl p.1 (cur.set (rankR s.Size t).1.toNat true)) := by
        simp only [msr, upd_upd, upd_same]
      rw [h2] at h1
      rw [← h1]
      rfl
    refine AW.frame_eq rfl hset ?_
    repeat' (first | (refine AW.r 23 ?_ <;> refine AL.d AOp.ad ?_ <;> refine AL.es 1 ?_ <;> refine AL.nil ?_) | refine AW.jt ?_ | refine AW.jf ?_ | refine AW.jj (fun hb => ?_) (fun hb => ?_) | refine AW.go ?_ | fail)
    exact AW.again_keep (r.Tuples.length - (j + 1)) [2, 3, 4, 5, 8, 9, 10, 11, 12, 15, 16, 78, 112, 113, 114] (by omega) ⟨j + 1, _, hlt, rfl, rfl, rfl, by rw [List.length_set]; exact hcl, he⟩
  · rw [List.drop_eq_nil_of_le (by omega), tabGo] at he
    repeat' (first | refine AW.re 19 1 ?_ | refine AW.jt ?_ | refine AW.jf ?_ | refine AW.jj (fun hb => ?_) (fun hb => ?_) | refine AW.go ?_ | fail)
    all_goals try (exfalso; simp only [decide_eq_true_eq, decide_eq_false_iff_not, List.length_map] at *; omega)
    have htab : cur = symR s (checkedP c) p.1 := by
      simp only [symR, hlk, tableR, hr]
      exact he.symm
    refine AW.again_keep ((checkedP c).S.length - (idx ++ [k]).length) [2, 3, 4, 5, 8, 9, 10, 11, 12, 15, 78] (by simp only [List.length_append, List.length_singleton]; omega) ⟨idx ++ [k], B2, upd rl p.1 cur, nodup_snoc hnd hk1, ?_, rfl, rfl, rfl, hmb2, hnd2, ?_, ?_, ?_⟩
    · intro j hj; rcases List.mem_append.1 hj with h | h; exact hbd j h; simp at h; omega
    · intro x
      rw [hnm2, List.mem_append, hnm']
      constructor
      · rintro (⟨j, hj, q, hq, e⟩ | h)
        · exact ⟨j, List.mem_append_left _ hj, q, hq, e⟩
        · simp at h; exact ⟨k, by simp, p, hp, h.symm⟩
      · rintro ⟨j, hj, q, hq, e⟩
        rcases List.mem_append.1 hj with h | h
        · exact .inl ⟨j, h, q, hq, e⟩
        · simp at h; subst h; rw [hp] at hq; cases hq; exact .inr (by simp [e])
    · intro x hx
      by_cases e : x = p.1
      · subst e; rw [upd_same]; exact htab
      · rw [upd_ne _ _ e]
        rw [hnm2] at hx
        exact hrl1 x (by simpa [e] using hx)
    · intro x hx
      rw [hnm2] at hx
      simp only [List.mem_append, List.mem_singleton, not_or] at hx
      rw [upd_ne _ _ hx.2]
      exact hrl2 x hx.1
end Go.Proofs.YtdedkpfbfklgbaaGreat
namespace Go.Proofs.YtdedkpfbfklgbaaGreat
open Go.RowKit Go.SX
set_option maxRecDepth 100000
set_option maxHeartbeats 4000000
set_option linter.unusedVariables false
set_option linter.unusedSimpArgs false
theorem code_Run (c : GCode) (s : GStr) (G : List Bool) (fuel : Int) (hc : c.Ok) (hs : s.Ok) (hG : G.length ≤ 4611686018427387904) (hk : (checkedP c).bad = false → ChkOk c) :
    Tri Tryz.prog 8 [c.av, s.av, bools G, .int .i64 fuel] [] (RunPost c s G fuel) := by
  have hv := shape_Valid s hs
  refine Tri.enterD 179 Tryz.func8 rfl rfl rfl rfl fun Fr w0 => ?_
  repeat' (first | (refine AW.r 0 ?_ <;> refine AL.d (AOp.box_ro rfl rfl) ?_ <;> refine AL.d (AOp.box_ro rfl rfl) ?_ <;> (first | refine AL.alloc_z (t := 4) (.bool false) (by kernel_rfl) rfl rfl fun r => ?_ | refine AL.alloc_z (t := 3) (.int .i64 0) (by kernel_rfl) rfl rfl fun r => ?_ | refine AL.alloc_z (t := 35) (.int .i64 0) (by kernel_rfl) rfl rfl fun r => ?_) <;> (first | refine AL.alloc_z (t := 4) (.bool false) (by kernel_rfl) rfl rfl fun r => ?_ | refine AL.alloc_z (t := 3) (.int .i64 0) (by kernel_rfl) rfl rfl fun r => ?_ | refine AL.alloc_z (t := 35) (.int .i64 0) (by kernel_rfl) rfl rfl fun r => ?_) <;> (first | refine AL.alloc_z (t := 4) (.bool false) (by kernel_rfl) rfl rfl fun r => ?_ | refine AL.alloc_z (t := 3) (.int .i64 0) (by kernel_rfl) rfl rfl fun r => ?_ | refine AL.alloc_z (t := 35) (.int .i64 0) (by kernel_rfl) rfl rfl fun r => ?_) <;> (first | refine AL.alloc_z (t := 4) (.bool false) (by kernel_rfl) rfl rfl fun r => ?_ | refine AL.alloc_z (t := 3) (.int .i64 0) (by kernel_rfl) rfl rfl fun r => ?_ | refine AL.alloc_z (t := 35) (.int .i64 0) (by kernel_rfl) rfl rfl fun r => ?_) <;> refine AL.nil ?_) | refine AW.jt ?_ | refine AW.jf ?_ | refine AW.jj (fun hb => ?_) (fun hb => ?_) | refine AW.go ?_ | fail)
  rename_i r1 r2 r3
  refine AW.perm (b := resAH r1 r2 r3 r false 0 0 0) (List.reverse_perm (resAH r1 r2 r3 r false 0 0 0)) ?_
  have hchk := (code_checked c hc).behind (resAH r1 r2 r3 r false 0 0 0)
  repeat' (first | (refine AW.r 1 ?_ <;> refine AL.es 1 ?_ <;> (refine AL.callQ rfl rfl hchk rfl ?_ ?_; rotate_left; rintro _ _ ⟨_, ⟨_, _, _, e, _⟩, _⟩; cases e; rintro _ _ ⟨_, ⟨b, ba, bs, e, rfl⟩, rfl⟩; injection e with e; subst e) <;> refine AL.es 1 ?_ <;> refine AL.nil ?_) | refine AW.jt ?_ | refine AW.jf ?_ | refine AW.jj (fun hb => ?_) (fun hb => ?_) | refine AW.go ?_ | fail)
  generalize hgA : (arrsP c.Arrays (chk0 c) ⟨[], 0⟩).2 = gA
  refine AW.prune [2, 3, 4, 5, 8, 9, 10, 11, 12] ?_
  repeat' (first | (refine AW.r 2 ?_ <;> refine AL.es 2 ?_ <;> (first | refine AL.d AOp.fa ?_ | refine AL.d (AOp.fr 7) ?_) <;> (first | refine AL.d AOp.la ?_ | refine AL.d (AOp.ll 0) ?_ | refine AL.d (AOp.ll 1) ?_ | refine AL.d (AOp.ll 2) ?_ | refine AL.d (AOp.ll 3) ?_ | refine AL.d (AOp.ll 4) ?_ | refine AL.d (AOp.ll 5) ?_ | refine AL.d (AOp.ll 6) ?_) <;> refine AL.es 1 ?_ <;> (first | (refine AL.gd ?_; (first | refine AL.d AOp.la ?_ | refine AL.d (AOp.lw 0) ?_ | refine AL.d (AOp.lw 1) ?_ | refine AL.d (AOp.lw 2) ?_ | refine AL.d (AOp.lw 3) ?_ | refine AL.d (AOp.lw 4) ?_ | refine AL.d (AOp.lw 5) ?_ | refine AL.d (AOp.lw 6) ?_)) | refine AL.gs ?_ | refine AL.gu ?_ | (refine AL.gx (fun hb => ?_) (fun hb => ?_) <;> first | (refine AL.gd ?_; (first | refine AL.d AOp.la ?_ | refine AL.d (AOp.lw 0) ?_ | refine AL.d (AOp.lw 1) ?_ | refine AL.d (AOp.lw 2) ?_ | refine AL.d (AOp.lw 3) ?_ | refine AL.d (AOp.lw 4) ?_ | refine AL.d (AOp.lw 5) ?_ | refine AL.d (AOp.lw 6) ?_)) | refine AL.gs ?_)) <;> (first | (refine AL.gd ?_; refine AL.d (AOp.call rfl rfl (hv.pure _)) ?_) | refine AL.gs ?_ | refine AL.gu ?_) <;> refine AL.es 2 ?_ <;> refine AL.nil ?_) | (refine AW.r 3 ?_ <;> (first | refine AL.sl 0 ?_ | refine AL.sl 1 ?_ | refine AL.sl 2 ?_ | refine AL.sl 3 ?_ | refine AL.sl 4 ?_ | refine AL.sl 5 ?_ | refine AL.sl 6 ?_) <;> (first | refine AL.sl 0 ?_ | refine AL.sl 1 ?_ | refine AL.sl 2 ?_ | refine AL.sl 3 ?_ | refine AL.sl 4 ?_ | refine AL.sl 5 ?_ | refine AL.sl 6 ?_) <;> (first | refine AL.sl 0 ?_ | refine AL.sl 1 ?_ | refine AL.sl 2 ?_ | refine AL.sl 3 ?_ | refine AL.sl 4 ?_ | refine AL.sl 5 ?_ | refine AL.sl 6 ?_) <;> (first | refine AL.sl 0 ?_ | refine AL.sl 1 ?_ | refine AL.sl 2 ?_ | refine AL.sl 3 ?_ | refine AL.sl 4 ?_ | refine AL.sl 5 ?_ | refine AL.sl 6 ?_) <;> refine AL.nil ?_) | refine AW.jt ?_ | refine AW.jf ?_ | refine AW.jj (fun hb => ?_) (fun hb => ?_) | refine AW.go ?_ | fail)
  · exact AW.retD0 (.cell 3 rfl rfl (by kernel_rfl) (.cell 4 rfl rfl (by kernel_rfl) (.cell 5 rfl rfl (by kernel_rfl) (.cell 6 rfl rfl (by kernel_rfl) .nil)))) ⟨_, _, _, _, .form (.inl hb), rfl⟩
  · exact AW.retD0 (.cell 3 rfl rfl (by kernel_rfl) (.cell 4 rfl rfl (by kernel_rfl) (.cell 5 rfl rfl (by kernel_rfl) (.cell 6 rfl rfl (by kernel_rfl) .nil)))) ⟨_, _, _, _, .form (.inr (by simpa using hb)), rfl⟩
  rename_i hbad
  have hval : validStr s = true := by simpa using hb
  clear hb hchk hv
  have hko := hk hbad
  refine AW.prune [2, 3, 4, 5, 8, 9, 10, 11, 12] ?_
  repeat' (first | (refine AW.r 4 ?_ <;> refine AL.es 2 ?_ <;> (first | refine AL.d AOp.fa ?_ | refine AL.d (AOp.fr 5) ?_) <;> (first | refine AL.d AOp.la ?_ | refine AL.d (AOp.ll 0) ?_ | refine AL.d (AOp.ll 1) ?_ | refine AL.d (AOp.ll 2) ?_ | refine AL.d (AOp.ll 3) ?_ | refine AL.d (AOp.ll 4) ?_ | refine AL.d (AOp.ll 5) ?_ | refine AL.d (AOp.ll 6) ?_) <;> refine AL.range 2 3 .string rfl rfl (by kernel_rfl) rfl fun it => ?_ <;> refine AL.nil ?_) | refine AW.jt ?_ | refine AW.jf ?_ | refine AW.jj (fun hb => ?_) (fun hb => ?_) | refine AW.go ?_ | fail)
  refine AW.prune [2, 3, 4, 5, 8, 9, 10, 11, 12, 43] (AW.loop (fun m af h => ∃ idx : List Nat, idx.Nodup ∧ (∀ k ∈ idx, k < (checkedP c).S.length) ∧ m = (checkedP c).S.length - idx.length ∧ af = [(2, bools G), (3, .int .i64 fuel), (4, .at c.av), (5, .at s.av), (8, .ref r1 0), (9, .ref r2 0), (10, .ref r3 0), (11, .ref r 0), (12, .ref b 0), (43, .ref it 0)] ∧ h = .iter it bs (checkedP c).gS.clk (seenOf (checkedP c).gS idx) :: ((checkedP c).ah b ba bs gA ++ resAH r1 r2 r3 r false 0 0 0) ∧ ∀ k ∈ idx, ∀ p, (checkedP c).S[k]? = some p → 0 ≤ findI s p.1 p.2) (checkedP c).S.length ⟨[], List.nodup_nil, by simp, by simp, rfl, rfl, by simp⟩ ?_)
  rintro m af h ⟨idx, hnd, hbd, rfl, rfl, rfl, hfind⟩
  refine AW.seq ?_
  have hbd' : ∀ k ∈ idx, k < (kvW iav (checkedP c).S).length := by rw [kvW_length]; exact hbd
  have hrl : s.Rels.length ≤ 4611686018427387904 := by obtain ⟨_, h2, _⟩ := hs; omega
  repeat' (first | (refine AW.r 5 ?_ <;> refine AL.next 3 0 idx rfl rfl rfl hbd' rfl (fun hall => ?_) (fun k key v hk1 hk2 => ?_) <;> refine AL.es 1 ?_ <;> refine AL.nil ?_) | refine AW.jt ?_ | refine AW.jf ?_ | refine AW.jj (fun hb => ?_) (fun hb => ?_) | refine AW.go ?_ | fail)
  rotate_left
  · obtain ⟨p, hp, rfl, rfl⟩ := kvW_get hk2
    have hpl : k < (checkedP c).S.length := (List.getElem?_eq_some_iff.1 hp).1
    have hfi := shape_Find s hrl p.1 p.2
    have hlen := nodup_bound (checkedP c).S.length (idx ++ [k]) (nodup_snoc hnd hk1) (by intro j hj; rcases List.mem_append.1 hj with h | h; exact hbd j h; simp at h; omega)
    simp only [List.length_append, List.length_singleton] at hlen
    repeat' (first | (refine AW.r 6 ?_ <;> refine AL.d (AOp.entry (i := 3) (j := 0) (k := k) rfl rfl rfl hk2) ?_ <;> refine AL.es 4 ?_ <;> refine AL.nil ?_) | (refine AW.r 7 ?_ <;> (first | refine AL.d AOp.la ?_ | refine AL.d (AOp.lw 0) ?_ | refine AL.d (AOp.lw 1) ?_ | refine AL.d (AOp.lw 2) ?_ | refine AL.d (AOp.lw 3) ?_ | refine AL.d (AOp.lw 4) ?_ | refine AL.d (AOp.lw 5) ?_ | refine AL.d (AOp.lw 6) ?_ | refine AL.d (AOp.lw 7) ?_) <;> refine AL.es 2 ?_ <;> refine AL.d (AOp.call rfl rfl (hfi.pure _)) ?_ <;> refine AL.es 1 ?_ <;> refine AL.nil ?_) | refine AW.jt ?_ | refine AW.jf ?_ | refine AW.jj (fun hb => ?_) (fun hb => ?_) | refine AW.go ?_ | fail)
    · repeat' (first | (refine AW.r 8 ?_ <;> (first | refine AL.sl 0 ?_ | refine AL.sl 1 ?_ | refine AL.sl 2 ?_ | refine AL.sl 3 ?_ | refine AL.sl 4 ?_ | refine AL.sl 5 ?_ | refine AL.sl 6 ?_ | refine AL.sl 7 ?_) <;> (first | refine AL.sl 0 ?_ | refine AL.sl 1 ?_ | refine AL.sl 2 ?_ | refine AL.sl 3 ?_ | refine AL.sl 4 ?_ | refine AL.sl 5 ?_ | refine AL.sl 6 ?_ | refine AL.sl 7 ?_) <;> (first | refine AL.sl 0 ?_ | refine AL.sl 1 ?_ | refine AL.sl 2 ?_ | refine AL.sl 3 ?_ | refine AL.sl 4 ?_ | refine AL.sl 5 ?_ | refine AL.sl 6 ?_ | refine AL.sl 7 ?_) <;> (first | refine AL.sl 0 ?_ | refine AL.sl 1 ?_ | refine AL.sl 2 ?_ | refine AL.sl 3 ?_ | refine AL.sl 4 ?_ | refine AL.sl 5 ?_ | refine AL.sl 6 ?_ | refine AL.sl 7 ?_) <;> refine AL.nil ?_) | refine AW.jt ?_ | refine AW.jf ?_ | refine AW.jj (fun hb => ?_) (fun hb => ?_) | refine AW.go ?_ | fail)
      exact AW.retD0 (.cell 4 rfl rfl (by kernel_rfl) (.cell 5 rfl rfl (by kernel_rfl) (.cell 6 rfl rfl (by kernel_rfl) (.cell 7 rfl rfl (by kernel_rfl) .nil)))) ⟨_, _, _, _, .name hbad hval p (List.mem_of_getElem? hp) (by simpa using hb), rfl⟩
    · refine AW.again_keep ((checkedP c).S.length - (idx ++ [k]).length) [2, 3, 4, 5, 8, 9, 10, 11, 12, 43] (by simp only [List.length_append, List.length_singleton]; omega) ⟨idx ++ [k], nodup_snoc hnd hk1, ?_, rfl, rfl, rfl, ?_⟩
      · intro j hj; rcases List.mem_append.1 hj with h | h; exact hbd j h; simp at h; omega
      · intro j hj q hq
        rcases List.mem_append.1 hj with h | h
        · exact hfind j h q hq
        · simp at h; subst h; rw [hp] at hq; cases hq; simpa using hb
  have hfound : ∀ p ∈ (checkedP c).S, 0 ≤ findI s p.1 p.2 := by
    intro p hp
    obtain ⟨k, hk⟩ := List.getElem?_of_mem hp
    exact hfind k (hall k (by rw [kvW_length]; exact (List.getElem?_eq_some_iff.1 hk).1)) p hk
  clear hfind hall hbd hbd' hnd
  refine AW.drop (List.sublist_cons_self _ _) ?_
  refine AW.prune [2, 3, 4, 5, 8, 9, 10, 11, 12] ?_
  have hfu : ∀ (P : Prop), (fuel < 0 ∨ fuel > 10000000 → P) → (0 ≤ fuel ∧ fuel ≤ 10000000 → P) → P := fun P h1 h2 => by
    by_cases h : 0 ≤ fuel ∧ fuel ≤ 10000000
    · exact h2 h
    · exact h1 (by omega)
  refine hfu _ (fun hf => ?_) (fun hf => ?_)
  · repeat' (first | (refine AW.r 9 ?_ <;> refine AL.es 3 ?_ <;> (first | refine AL.es 3 ?_ | (refine AL.gx (fun hb => ?_) (fun hb => ?_) <;> refine AL.es 3 ?_)) <;> refine AL.nil ?_) | (refine AW.r 10 ?_ <;> (first | refine AL.sl 0 ?_ | refine AL.sl 1 ?_ | refine AL.sl 2 ?_ | refine AL.sl 3 ?_ | refine AL.sl 4 ?_ | refine AL.sl 5 ?_ | refine AL.sl 6 ?_) <;> (first | refine AL.sl 0 ?_ | refine AL.sl 1 ?_ | refine AL.sl 2 ?_ | refine AL.sl 3 ?_ | refine AL.sl 4 ?_ | refine AL.sl 5 ?_ | refine AL.sl 6 ?_) <;> (first | refine AL.sl 0 ?_ | refine AL.sl 1 ?_ | refine AL.sl 2 ?_ | refine AL.sl 3 ?_ | refine AL.sl 4 ?_ | refine AL.sl 5 ?_ | refine AL.sl 6 ?_) <;> (first | refine AL.sl 0 ?_ | refine AL.sl 1 ?_ | refine AL.sl 2 ?_ | refine AL.sl 3 ?_ | refine AL.sl 4 ?_ | refine AL.sl 5 ?_ | refine AL.sl 6 ?_) <;> refine AL.nil ?_) | refine AW.jt ?_ | refine AW.jf ?_ | refine AW.jj (fun hb => ?_) (fun hb => ?_) | refine AW.go ?_ | fail)
    all_goals first
      | (exfalso; simp only [decide_eq_true_eq, decide_eq_false_iff_not] at *; omega)
      | exact AW.retD0 (.cell 3 rfl rfl (by kernel_rfl) (.cell 4 rfl rfl (by kernel_rfl) (.cell 5 rfl rfl (by kernel_rfl) (.cell 6 rfl rfl (by kernel_rfl) .nil)))) ⟨_, _, _, _, .arg hbad hval hfound hf, rfl⟩
  repeat' (first | (refine AW.r 9 ?_ <;> refine AL.es 3 ?_ <;> (first | refine AL.es 3 ?_ | (refine AL.gx (fun hb => ?_) (fun hb => ?_) <;> refine AL.es 3 ?_)) <;> refine AL.nil ?_) | refine AW.jt ?_ | refine AW.jf ?_ | refine AW.jj (fun hb => ?_) (fun hb => ?_) | refine AW.go ?_ | fail)
  all_goals try (exfalso; simp only [decide_eq_true_eq, decide_eq_false_iff_not] at *; omega)
  refine AW.prune [2, 3, 4, 5, 8, 9, 10, 11, 12] ?_
  obtain ⟨hfl, hrg, hkeys, harrs, hapart, hlook, honly, har, hsar, hbody⟩ := hko
  have hFx : (some (AV.int .i64 c.Flags)) = some (AV.int .i64 (c.Flags.toNat : Nat)) := by rw [Int.toNat_of_nonneg (by omega)]
  have hRx : (some (AV.int .i64 c.Regs)) = some (AV.int .i64 (c.Regs.toNat : Nat)) := by rw [Int.toNat_of_nonneg hrg.1]
  have hFb : c.Flags.toNat ≤ 1000 := by omega
  have hRb : c.Regs.toNat ≤ 60 := by omega
  refine AW.cut (fun af ah => ∃ B : Blk, B.names = [] ∧ af = [(2, bools G), (3, .int .i64 fuel), (4, .at c.av), (5, .at s.av), (8, .ref r1 0), (9, .ref r2 0), (10, .ref r3 0), (11, .ref r 0), (12, .ref b 0), (15, .ref B.mb 0)] ∧ ah = (checkedP c).ah b ba bs gA ++ resAH r1 r2 r3 r false 0 0 0 ++ (⟨List.replicate c.Flags.toNat false, List.replicate c.Regs.toNat 0, fun _ => [], 0, 0⟩ : MS).ah ⟨s.Size, G, fuel⟩ B) ?_ ?_
  · refine AW.explore [] [4, 7, 8, 11, 12, 13, 14] rfl (by kernel_rfl) (by kernel_rfl) (by kernel_rfl) (by kernel_rfl) ?_
    repeat' (first
      | refine AQE.hole rfl rfl ?_
      | refine AQE.ev rfl rfl rfl rfl ?_
      | refine AQE.op rfl (AOp.field_at rfl rfl (by kernel_rfl) rfl) rfl rfl ?_
      | refine AQE.op rfl (AOp.load_at rfl rfl (by kernel_rfl)) rfl rfl ?_
      | refine AQE.nil ?_)
    repeat' (first
      | refine AX.four (n := 6) 4 7 8 11 rfl ?_ ?_ ?_ ?_
      | refine AX.three (n := 5) 4 7 8 rfl ?_ ?_ ?_
      | refine AX.three (n := 5) 4 7 11 rfl ?_ ?_ ?_
      | refine AX.three (n := 5) 4 8 11 rfl ?_ ?_ ?_
      | refine AX.three (n := 5) 7 8 11 rfl ?_ ?_ ?_
      | refine AX.two (n := 4) 4 7 rfl ?_ ?_
      | refine AX.two (n := 4) 4 8 rfl ?_ ?_
      | refine AX.two (n := 4) 4 11 rfl ?_ ?_
      | refine AX.two (n := 4) 7 8 rfl ?_ ?_
      | refine AX.two (n := 4) 7 11 rfl ?_ ?_
      | refine AX.two (n := 4) 8 11 rfl ?_ ?_
      | refine AX.one (n := 3) 4 rfl ?_
      | refine AX.one (n := 3) 7 rfl ?_
      | refine AX.one (n := 3) 8 rfl ?_
      | refine AX.one (n := 3) 11 rfl ?_
      | refine AX.one (n := 2) 12 rfl ?_
      | refine AX.one (n := 1) 13 rfl ?_
      | refine AX.one (n := 0) 14 rfl ?_
      | (refine AXS.new (i := 4) rfl rfl rfl (AOp.makeSlice (n := c.Flags.toNat) (e := 4) (c := .bool false) (z := .bool false) (bytes := 1) hFx hFx (by kernel_rfl) rfl (by omega) (by omega)) (fun bf => ?_); dsimp only [List.set_cons_succ, List.set_cons_zero])
      | (refine AXS.new (i := 7) rfl rfl rfl (AOp.makeSlice (n := c.Regs.toNat) (e := 3) (c := .int .i64 0) (z := .int .i64 0) (bytes := 8) hRx hRx (by kernel_rfl) rfl (by omega) (by omega)) (fun br => ?_); dsimp only [List.set_cons_succ, List.set_cons_zero])
      | (refine AXS.new (i := 8) rfl rfl rfl AOp.makeMap (fun bl => ?_); dsimp only [List.set_cons_succ, List.set_cons_zero])
      | (refine AXS.step (i := 11) rfl rfl rfl (AOp.call rfl rfl (code_actions.behind _)) ?_ (by rintro _ _ ⟨_, ⟨_, _, e, _⟩, _⟩; cases e); rintro _ _ ⟨_, ⟨bu, gu, e, rfl⟩, rfl⟩; injection e with e; subst e; dsimp only [List.set_cons_succ, List.set_cons_zero])
      | (refine AXS.det (i := 12) rfl rfl rfl (AOp.build (pl := [(0, 1), (1, 1), (2, 1), (3, 1), (4, 1), (5, 1), (6, 1), (7, 1), (8, 1)]) (z := .st [.int .i64 0, .sl [], .sl [], .val (.map none), .sl [], .int .i64 0, .int .i64 0, .int .i64 0, .val (.map none)]) (by kernel_rfl) rfl rfl rfl) ?_; dsimp only [List.set_cons_succ, List.set_cons_zero])
      | (refine AXS.new (i := 13) rfl rfl rfl (AOp.box rfl rfl) (fun bm => ?_); dsimp only [List.set_cons_succ, List.set_cons_zero])
      | (refine AXS.det (i := 14) rfl rfl rfl (AOp.ev rfl) ?_; dsimp only [List.set_cons_succ, List.set_cons_zero]))
    all_goals
      refine AX.done [(2, bools G), (3, .int .i64 fuel), (4, .at c.av), (5, .at s.av), (8, .ref r1 0), (9, .ref r2 0), (10, .ref r3 0), (11, .ref r 0), (12, .ref b 0), (15, .ref bm 0)] rfl ?_
      refine AW.perm (b := (checkedP c).ah b ba bs gA ++ resAH r1 r2 r3 r false 0 0 0 ++ (⟨List.replicate c.Flags.toNat false, List.replicate c.Regs.toNat 0, fun _ => [], 0, 0⟩ : MS).ah ⟨s.Size, G, fuel⟩ ⟨bm, bf, br, bl, bu, [], fun _ => 0, ⟨[], 0⟩, gu⟩) ?_ (AW.meet [2, 3, 4, 5, 8, 9, 10, 11, 12, 15] ⟨_, rfl, rfl, rfl⟩)
      refine List.perm_append_comm.trans (List.Perm.append_left _ ?_)
      simp only [MS.ah, MS.box, List.map_replicate, List.length_replicate, List.map_nil]
      repeat' (first
        | exact List.Perm.nil
        | refine List.Perm.cons _ ?_
        | refine (List.perm_middle (l₁ := [_])).trans (List.Perm.cons _ ?_)
        | refine (List.perm_middle (l₁ := [_, _])).trans (List.Perm.cons _ ?_)
        | refine (List.perm_middle (l₁ := [_, _, _])).trans (List.Perm.cons _ ?_)
        | refine (List.perm_middle (l₁ := [_, _, _, _])).trans (List.Perm.cons _ ?_))
  · rintro af ah ⟨B, hB, rfl, rfl⟩
    refine AW.seq (AW.seq ?_)
    exact run_t6 c s G fuel hc hs hG hbad hval hfound hf (hk hbad) b ba bs r1 r2 r3 r gA B hB Fr w0
end Go.Proofs.YtdedkpfbfklgbaaGreat
namespace Go.Proofs.YtdedkpfbfklgbaaGreat
open Go.RowKit Go.SX
set_option maxRecDepth 100000
set_option maxHeartbeats 4000000
set_option linter.unusedVariables false
set_option linter.unusedSimpArgs false
theorem SFit.nok {F R : Nat} {sig : ByteArray → Option Nat} {s : GStmt} (h : SFit F R sig s) : NOk s := by
  induction h with
  | mk h hb he ihb ihe => exact .mk h.n ihb ihe
theorem code_RunC (c : GCode) (s : GStr) (G : List Bool) (fuel : Int) (hc : c.Ok) (hs : s.Ok) (hG : G.length ≤ 4611686018427387904) : Tri Tryz.prog 8 [c.av, s.av, bools G, .int .i64 fuel] [] (RunPost c s G fuel) :=
  code_Run c s G fuel hc hs hG fun h => chk_ok h
def untilB (l : List GStmt) : Bool := hasL (fun s => decide (s.Kind = 10)) l
def timeR (c : GCode) : List Int × Int :=
  if (checkedP c).bad = true then ([], 1) else if untilB c.Body = true then ([], 6) else if (timeL c.Body []).length > 61 ∨ ∃ x ∈ timeL c.Body [], x > 1099511627776 then ([], 5) else (timeL c.Body [], 0)
theorem Time1 (s : GStmt) : Tri Tryz.prog 41 [s.st] [] (D (.bool (decide (s.Kind = 10))) []) := by
  refine Tri.enter 6 Tryz.func41 rfl rfl rfl rfl fun Fr w0 => ?_
  repeat' (first | (refine AW.r 0 ?_ <;> refine AL.d (AOp.box_ro rfl rfl) ?_ <;> refine AL.es 1 ?_ <;> refine AL.nil ?_) | refine AW.re 1 4 ?_ | refine AW.jt ?_ | refine AW.jf ?_ | refine AW.jj (fun hb => ?_) (fun hb => ?_) | refine AW.go ?_ | fail)
  exact AW.retv rfl ⟨by rw [ieq], rfl⟩
theorem Time2 (x : Int) : Tri Tryz.prog 44 [iav x] [] (D (.bool (decide (x > 1099511627776))) []) := by
  refine Tri.enter 5 Tryz.func44 rfl rfl rfl rfl fun Fr w0 => ?_
  repeat' (first | refine AW.re 0 1 ?_ | refine AW.re 1 3 ?_ | refine AW.jt ?_ | refine AW.jf ?_ | refine AW.jj (fun hb => ?_) (fun hb => ?_) | refine AW.go ?_ | fail)
  exact AW.retv rfl ⟨rfl, rfl⟩
theorem code_Time (c : GCode) (hc : c.Ok) (hcnt : cntL c.Body ≤ 50000) : Tri Tryz.prog 11 [c.av] [] (D (.tup [ints (timeR c).1, .int .i64 (timeR c).2]) []) := by
  have hV := code_Valid c hc
  obtain ⟨_, _, _, hcb1, hcb2⟩ := hc
  have hK := contains_n (cntL c.Body) c.Body 41 [] (fun s => decide (s.Kind = 10)) (Nat.le_refl _) (by omega) fun s => Time1 s
  by_cases hb : (checkedP c).bad = true
  · rw [timeR, if_pos hb]
    rw [hb] at hV
    refine Tri.enter 22 Tryz.func11 rfl rfl rfl rfl fun Fr w0 => ?_
    repeat' (first | (refine AW.r 0 ?_ <;> refine AL.d (AOp.box_ro rfl rfl) ?_ <;> refine AL.es 2 ?_ <;> refine AL.nil ?_) | (refine AW.r 1 ?_ <;> refine AL.es 1 ?_ <;> refine AL.d (AOp.call rfl rfl hV) ?_ <;> refine AL.es 1 ?_ <;> refine AL.nil ?_) | refine AW.re 2 2 ?_ | refine AW.jt ?_ | refine AW.jf ?_ | refine AW.jj (fun hb => ?_) (fun hb => ?_) | refine AW.go ?_ | fail)
    all_goals first
      | exact AW.retv rfl ⟨rfl, rfl⟩
      | (exfalso; simp at *; done)
  · have hb' : (checkedP c).bad = false := by simpa using hb
    have hno : ∀ x ∈ c.Body, NOk x := fun x hx => ((chk_ok hb').body x hx).nok
    have hT := code_time (cntL c.Body) c.Body (Nat.le_refl _) hcnt (by omega) hcb2 hno
    have hf := timeL_facts (cntL c.Body) c.Body (Nat.le_refl _) hno [] nil_ok
    simp only [List.length_nil] at hf
    have hC := ContainsFunc_poly (timeL c.Body []) (by omega) 44 [] (fun x => decide (x > 1099511627776)) fun x _ => Time2 x
    rw [timeR, if_neg hb]
    rw [hb'] at hV
    have hlen : (((timeL c.Body []).map iav).length : Int) = (timeL c.Body []).length := by simp
    unfold untilB
    by_cases hu : hasL (fun s => decide (s.Kind = 10)) c.Body = true
    · rw [if_pos hu]
      rw [hu] at hK
      refine Tri.enter 22 Tryz.func11 rfl rfl rfl rfl fun Fr w0 => ?_
      repeat' (first | (refine AW.r 0 ?_ <;> refine AL.d (AOp.box_ro rfl rfl) ?_ <;> refine AL.es 2 ?_ <;> refine AL.nil ?_) | (refine AW.r 1 ?_ <;> refine AL.es 1 ?_ <;> (first | refine AL.d (AOp.call rfl rfl hV) ?_ | refine AL.d (AOp.call rfl rfl hK) ?_) <;> refine AL.es 1 ?_ <;> refine AL.nil ?_) | (refine AW.r 3 ?_ <;> refine AL.es 2 ?_ <;> (first | refine AL.d (AOp.call rfl rfl hV) ?_ | refine AL.d (AOp.call rfl rfl hK) ?_) <;> refine AL.nil ?_) | refine AW.re 4 2 ?_ | refine AW.jt ?_ | refine AW.jf ?_ | refine AW.jj (fun hb => ?_) (fun hb => ?_) | refine AW.go ?_ | fail)
      all_goals first
        | exact AW.retv rfl ⟨rfl, rfl⟩
        | (exfalso; simp at *; done)
    · rw [if_neg hu]
      rw [show hasL (fun s => decide (s.Kind = 10)) c.Body = false by simpa using hu] at hK
      refine Tri.enter 22 Tryz.func11 rfl rfl rfl rfl fun Fr w0 => ?_
      repeat' (first | (refine AW.r 0 ?_ <;> refine AL.d (AOp.box_ro rfl rfl) ?_ <;> refine AL.es 2 ?_ <;> refine AL.nil ?_) | (refine AW.r 1 ?_ <;> refine AL.es 1 ?_ <;> (first | refine AL.d (AOp.call rfl rfl hV) ?_ | refine AL.d (AOp.call rfl rfl hK) ?_ | refine AL.d (AOp.call rfl rfl hT) ?_ | refine AL.d (AOp.call rfl rfl hC) ?_) <;> refine AL.es 1 ?_ <;> refine AL.nil ?_) | (refine AW.r 3 ?_ <;> refine AL.es 2 ?_ <;> (first | refine AL.d (AOp.call rfl rfl hV) ?_ | refine AL.d (AOp.call rfl rfl hK) ?_ | refine AL.d (AOp.call rfl rfl hT) ?_ | refine AL.d (AOp.call rfl rfl hC) ?_) <;> refine AL.nil ?_) | (refine AW.r 5 ?_ <;> refine AL.es 2 ?_ <;> (first | refine AL.d (AOp.call rfl rfl hV) ?_ | refine AL.d (AOp.call rfl rfl hK) ?_ | refine AL.d (AOp.call rfl rfl hT) ?_ | refine AL.d (AOp.call rfl rfl hC) ?_) <;> refine AL.es 1 ?_ <;> refine AL.nil ?_) | (refine AW.r 6 ?_ <;> refine AL.es 4 ?_ <;> (first | refine AL.es 1 ?_ | (refine AL.gx (fun hb => ?_) (fun hb => ?_) <;> refine AL.es 1 ?_)) <;> (first | (refine AL.gd ?_; (first | refine AL.d (AOp.call rfl rfl hV) ?_ | refine AL.d (AOp.call rfl rfl hK) ?_ | refine AL.d (AOp.call rfl rfl hT) ?_ | refine AL.d (AOp.call rfl rfl hC) ?_)) | refine AL.gs ?_ | refine AL.gu ?_) <;> refine AL.es 1 ?_ <;> refine AL.nil ?_) | refine AW.re 7 2 ?_ | refine AW.re 8 3 ?_ | refine AW.jt ?_ | refine AW.jf ?_ | refine AW.jj (fun hb => ?_) (fun hb => ?_) | refine AW.go ?_ | fail)
      all_goals first
        | (exfalso; simp at *; done)
        | skip
      all_goals first
        | (refine AW.retv rfl ⟨?_, rfl⟩; rw [if_pos (Or.inl (by simp only [decide_eq_true_eq] at hb; omega))]; rfl)
        | (refine AW.retv rfl ⟨?_, rfl⟩; rw [if_pos (Or.inr (by simpa using hb))]; rfl)
        | (rename_i hb2; refine AW.retv rfl ⟨?_, rfl⟩; rw [if_neg (by (rintro (h | ⟨x, hx, h⟩); (simp only [decide_eq_false_iff_not] at hb2; omega); (simp at hb; have := hb x hx; omega)))]; rfl)
end Go.Proofs.YtdedkpfbfklgbaaGreat
namespace Go.Proofs.YtdedkpfbfklgbaaGreat
open Go.RowKit Go.SX
set_option maxRecDepth 100000
set_option maxHeartbeats 4000000
set_option linter.unusedVariables false
set_option linter.unusedSimpArgs false
def pw (n : Int) : Nat → Int → Int
  | 0, p => p
  | k + 1, p => pw n k (min (p * n) 1099511627777)
def totR (n : Int) : Int × Int := if n > 1099511627776 then (0, 5) else (n, 0)
def cellsGo (n : Int) : List GSym → Int → Int
  | [], s => s
  | a :: l, s => cellsGo n l (min (s + pw n a.Arity.toNat 1) 1099511627777)
def cellsN (c : GCode) (n : Int) : Int := cellsGo n c.Arrays (c.Flags + c.Regs)
def cellsR (c : GCode) (n : Int) : Int × Int := if (checkedP c).bad = true then (0, 1) else if n < 1 ∨ n > 64 then (0, 2) else totR (cellsN c n)
end Go.Proofs.YtdedkpfbfklgbaaGreat
namespace Go.Proofs.YtdedkpfbfklgbaaGreat
open Go.RowKit Go.SX
set_option maxRecDepth 100000
set_option maxHeartbeats 4000000
set_option linter.unusedVariables false
set_option linter.unusedSimpArgs false
def inS (s : GStmt) : Bool := hasL (fun s => decide (s.Kind = 12)) s.Body || hasL (fun s => decide (s.Kind = 12)) s.Else
def insideB (l : List GStmt) : Bool := l.any inS
def guessGo (A : Ar) (n : Int) : List GStmt → Int → Int
  | [], s => s
  | x :: l, s => guessGo A n l (if x.Kind = 12 then min (s + pw n ((A x.Name).getD 0).toNat 1) 1099511627777 else s)
def guessN (c : GCode) (n : Int) : Int := guessGo (arOf c.Arrays) n c.Body 0
def guessR (c : GCode) (n : Int) : Int × Int := if (checkedP c).bad = true then (0, 1) else if n < 1 ∨ n > 64 then (0, 2) else if insideB c.Body = true then (0, 6) else totR (guessN c n)
theorem allL_mem (p : GStmt → Bool) : ∀ {l : List GStmt}, allL p l = true → ∀ x ∈ l, p x = true ∧ allL p x.Body = true ∧ allL p x.Else = true
  | [], _, x, hx => by cases hx
  | y :: l, h, x, hx => by
    rw [allL, Bool.and_eq_true, allS_eq, Bool.and_eq_true, Bool.and_eq_true] at h
    rcases List.mem_cons.1 hx with rfl | hx
    · exact ⟨h.1.1.1, h.1.1.2, h.1.2⟩
    · exact allL_mem p h.2 x hx
theorem ref_all {c : GCode} (hb : (checkedP c).bad = false) : allL (refS (arOf c.Arrays) c.Flags c.Regs) c.Body = true := by
  rw [checked_iff] at hb
  have h : refValid c = true := by simpa using hb
  unfold refValid at h
  simp only [Bool.and_eq_true] at h
  exact h.1.2.2
end Go.Proofs.YtdedkpfbfklgbaaGreat
namespace Go.Proofs.YtdedkpfbfklgbaaGreat
open Go.RowKit Go.SX
set_option maxRecDepth 100000
set_option maxHeartbeats 4000000
set_option linter.unusedVariables false
set_option linter.unusedSimpArgs false
theorem Ex.det {E : Env} {T : Task} {m : MS} {o1 : Option Int} {m1 : MS} (h : Ex E T m o1 m1) : ∀ {o2 : Option Int} {m2 : MS}, Ex E T m o2 m2 → o1 = o2 ∧ m1 = m2 := by
  induction h with
  | nil => intro o2 m2 h2; cases h2; exact ⟨rfl, rfl⟩
  | stop h => intro o2 m2 h2; cases h2 <;> first | exact ⟨rfl, rfl⟩ | contradiction
  | bad h h1 ih =>
    intro o2 m2 h2
    cases h2 with
    | stop h' => contradiction
    | bad h' h1' => exact ih h1'
    | cons h' h1' h2' => exact absurd (ih h1').1 (by simp)
  | cons h h1 h2 ih1 ih2 =>
    intro o2 m2 h3
    cases h3 with
    | stop h' => contradiction
    | bad h' h1' => exact absurd (ih1 h1').1 (by simp)
    | cons h' h1' h2' => obtain ⟨_, rfl⟩ := ih1 h1'; exact ih2 h2'
  | prim h => intro o2 m2 h2; cases h2 <;> first | exact ⟨rfl, rfl⟩ | (exfalso; (try unfold isPrim at *); omega)
  | gbad h h1 => intro o2 m2 h2; cases h2 <;> first | exact ⟨rfl, rfl⟩ | contradiction | (exfalso; (try unfold isPrim at *); omega)
  | gok h h1 => intro o2 m2 h2; cases h2 <;> first | exact ⟨rfl, rfl⟩ | contradiction | (exfalso; (try unfold isPrim at *); omega)
  | each h h1 ih => intro o2 m2 h2; cases h2 <;> first | (exact ih (by assumption)) | (exfalso; (try unfold isPrim at *); omega)
  | eend h => intro o2 m2 h2; cases h2 <;> first | exact ⟨rfl, rfl⟩ | contradiction
  | ebad h h1 ih =>
    intro o2 m2 h2
    cases h2 with
    | eend h' => contradiction
    | ebad h' h1' => exact ih h1'
    | estep h' h1' h2' => exact absurd (ih h1').1 (by simp)
  | estep h h1 h2 ih1 ih2 =>
    intro o2 m2 h3
    cases h3 with
    | eend h' => contradiction
    | ebad h' h1' => exact absurd (ih1 h1').1 (by simp)
    | estep h' h1' h2' => obtain ⟨_, rfl⟩ := ih1 h1'; exact ih2 h2'
  | cond h h1 ih => intro o2 m2 h2; cases h2 <;> first | (exact ih (by assumption)) | (exfalso; (try unfold isPrim at *); omega)
  | t0 h h1 => intro o2 m2 h2; cases h2 <;> first | exact ⟨rfl, rfl⟩ | contradiction | (exfalso; (try unfold isPrim at *); omega)
  | t1 h h1 h2 ih => intro o2 m2 h3; cases h3 <;> first | (exact ih (by assumption)) | contradiction | (exfalso; (try unfold isPrim at *); omega)
  | tz h1 ih => intro o2 m2 h2; cases h2; exact ih (by assumption)
  | ts h1 ih => intro o2 m2 h2; cases h2; exact ih (by assumption)
  | rz => intro o2 m2 h2; cases h2; exact ⟨rfl, rfl⟩
  | rbad h1 ih =>
    intro o2 m2 h2
    cases h2 with
    | rbad h1' => exact ih h1'
    | rstep h1' h2' => exact absurd (ih h1').1 (by simp)
  | rstep h1 h2 ih1 ih2 =>
    intro o2 m2 h3
    cases h3 with
    | rbad h1' => exact absurd (ih1 h1').1 (by simp)
    | rstep h1' h2' => obtain ⟨_, rfl⟩ := ih1 h1'; exact ih2 h2'
  | ubad h h1 ih =>
    intro o2 m2 h2
    cases h2 with
    | ubad h' h1' => exact ih h1'
    | uend h' h1' h2' => exact absurd (ih h1').1 (by simp)
    | ustop h' h1' h2' h3' => exact absurd (ih h1').1 (by simp)
    | ustep h' h1' h2' h3' h4' => exact absurd (ih h1').1 (by simp)
    | _ => exfalso; (try unfold isPrim at *); omega
  | uend h h1 h2 ih =>
    intro o2 m2 h3
    cases h3 with
    | ubad h' h1' => exact absurd (ih h1').1 (by simp)
    | uend h' h1' h2' => exact ⟨rfl, (ih h1').2⟩
    | ustop h' h1' h2' h3' => obtain ⟨_, rfl⟩ := ih h1'; rw [h2] at h2'; cases h2'
    | ustep h' h1' h2' h3' h4' => obtain ⟨_, rfl⟩ := ih h1'; rw [h2] at h2'; cases h2'
    | _ => exfalso; (try unfold isPrim at *); omega
  | ustop h h1 h2 h3 ih =>
    intro o2 m2 h4
    cases h4 with
    | ubad h' h1' => exact absurd (ih h1').1 (by simp)
    | uend h' h1' h2' => obtain ⟨_, rfl⟩ := ih h1'; rw [h2] at h2'; cases h2'
    | ustop h' h1' h2' h3' => exact ⟨rfl, (ih h1').2⟩
    | ustep h' h1' h2' h3' h4' => obtain ⟨_, rfl⟩ := ih h1'; contradiction
    | _ => exfalso; (try unfold isPrim at *); omega
  | ustep h h1 h2 h3 h4 ih1 ih2 =>
    intro o2 m2 h5
    cases h5 with
    | ubad h' h1' => exact absurd (ih1 h1').1 (by simp)
    | uend h' h1' h2' => obtain ⟨_, rfl⟩ := ih1 h1'; rw [h2] at h2'; cases h2'
    | ustop h' h1' h2' h3' => obtain ⟨_, rfl⟩ := ih1 h1'; contradiction
    | ustep h' h1' h2' h3' h4' => obtain ⟨_, rfl⟩ := ih1 h1'; exact ih2 h4'
    | _ => exfalso; (try unfold isPrim at *); omega
theorem prim_same (n : Int) (s : GStmt) (m : MS) : (prim n s m).steps = m.steps ∧ (prim n s m).used = m.used := by
  have hif : ∀ (c : Prop) [Decidable c] (a b : MS), (a.steps = m.steps ∧ a.used = m.used) → (b.steps = m.steps ∧ b.used = m.used) → ((if c then a else b).steps = m.steps ∧ (if c then a else b).used = m.used) := fun c _ a b h1 h2 => by split <;> assumption
  unfold prim
  exact hif _ _ _ ⟨rfl, rfl⟩ (hif _ _ _ ⟨rfl, rfl⟩ (hif _ _ _ ⟨rfl, rfl⟩ (hif _ _ _ ⟨rfl, rfl⟩ (hif _ _ _ ⟨rfl, rfl⟩ (hif _ _ _ ⟨rfl, rfl⟩ (hif _ _ _ ⟨rfl, rfl⟩ (hif _ _ _ ⟨rfl, rfl⟩ (hif _ _ _ ⟨rfl, rfl⟩ ⟨rfl, rfl⟩))))))))
theorem Ex.grow {E : Env} {T : Task} {m : MS} {o : Option Int} {m' : MS} (h : Ex E T m o m') : m.steps ≤ m'.steps ∧ m.used ≤ m'.used ∧ (m.steps ≤ E.fuel → m'.steps ≤ E.fuel) ∧ (m.used ≤ E.G.length → m'.used ≤ E.G.length) := by
  induction h with
  | prim h => rename_i x m; have := prim_same E.n x m; omega
  | gok h h1 => rename_i x m; simp only [MS.guess]; omega
  | bad h h1 ih => simp only [MS.step] at ih; omega
  | cons h h1 h2 ih1 ih2 => simp only [MS.step] at ih1; omega
  | ebad h h1 ih => simp only [MS.setR] at ih; omega
  | estep h h1 h2 ih1 ih2 => simp only [MS.setR] at ih1; omega
  | ustep h h1 h2 h3 h4 ih1 ih2 => simp only [MS.step] at ih2; omega
  | _ => omega
theorem Ex.other {E : Env} {T : Task} {m : MS} {o : Option Int} {m' : MS} (h : Ex E T m o m') : ∀ {E' : Env}, E'.n = E.n → o = none → m'.steps ≤ E'.fuel → m'.used ≤ E'.G.length → m'.used ≤ E.G.length → 0 ≤ m.used → E'.G.take m'.used.toNat = E.G.take m'.used.toNat → Ex E' T m none m' := by
  have tk : ∀ (G G' : List Bool) (a b : Nat), a ≤ b → G'.take b = G.take b → G'.take a = G.take a := fun G G' a b hab e => by
    rw [← Nat.min_eq_left hab, ← List.take_take, e, List.take_take]
  induction h with
  | nil => intro E' hn ho hf hg hg2 h0 he; exact .nil
  | stop h => intro E' hn ho; cases ho
  | bad h h1 ih => intro E' hn ho; cases ho
  | cons h h1 h2 ih1 ih2 =>
    intro E' hn ho hf hg hg2 h0 he
    have g1 := h1.grow
    have g2 := h2.grow
    simp only [MS.step] at g1
    refine .cons (by omega) (ih1 hn rfl (by omega) (by omega) (by omega) h0 (tk _ _ _ _ (by omega) he)) (ho ▸ ih2 hn ho hf hg hg2 (by omega) he)
  | prim h => intro E' hn ho hf hg hg2 h0 he; rw [← hn]; exact .prim h
  | gbad h h1 => intro E' hn ho; cases ho
  | gok h h1 =>
    intro E' hn ho hf hg hg2 h0 he
    rename_i x m
    simp only [MS.guess] at hg hg2 he
    have e : m.guess E.G x = m.guess E'.G x := by
      simp only [MS.guess]
      have h3 : (E.G.drop m.used.toNat).take (m.rels x.Name).length = (E'.G.drop m.used.toNat).take (m.rels x.Name).length := by
        have h4 : ∀ G : List Bool, (G.drop m.used.toNat).take (m.rels x.Name).length = (G.take (m.used + (m.rels x.Name).length).toNat).drop m.used.toNat := fun G => by
          rw [List.take_drop]; congr 2; omega
        rw [h4, h4, he]
      rw [h3]
    rw [e]
    exact .gok h (by omega)
  | each h h1 ih => intro E' hn ho hf hg hg2 h0 he; exact .each h (ih hn ho hf hg hg2 h0 he)
  | eend h => intro E' hn ho hf hg hg2 h0 he; exact .eend (by rw [hn]; exact h)
  | ebad h h1 ih => intro E' hn ho; cases ho
  | estep h h1 h2 ih1 ih2 =>
    intro E' hn ho hf hg hg2 h0 he
    have g1 := h1.grow
    have g2 := h2.grow
    simp only [MS.setR] at g1
    exact .estep (by rw [hn]; exact h) (ih1 hn rfl (by omega) (by omega) (by omega) h0 (tk _ _ _ _ (by omega) he)) (ih2 hn ho hf hg hg2 (by omega) he)
  | cond h h1 ih => intro E' hn ho hf hg hg2 h0 he; exact .cond h (ih hn ho hf hg hg2 h0 he)
  | t0 h h1 => intro E' hn ho hf hg hg2 h0 he; exact .t0 h h1
  | t1 h h1 h2 ih => intro E' hn ho hf hg hg2 h0 he; exact .t1 h h1 (ih hn ho hf hg hg2 h0 he)
  | tz h1 ih => intro E' hn ho hf hg hg2 h0 he; exact .tz (ih hn ho hf hg hg2 h0 he)
  | ts h1 ih => intro E' hn ho hf hg hg2 h0 he; exact .ts (by rw [hn]; exact ih hn ho hf hg hg2 h0 he)
  | rz => intro E' hn ho hf hg hg2 h0 he; exact .rz
  | rbad h1 ih => intro E' hn ho; cases ho
  | rstep h1 h2 ih1 ih2 =>
    intro E' hn ho hf hg hg2 h0 he
    have g1 := h1.grow
    have g2 := h2.grow
    exact .rstep (ih1 hn rfl (by omega) (by omega) (by omega) h0 (tk _ _ _ _ (by omega) he)) (ih2 hn ho hf hg hg2 (by omega) he)
  | ubad h h1 ih => intro E' hn ho; cases ho
  | uend h h1 h2 ih => intro E' hn ho hf hg hg2 h0 he; exact .uend h (ih hn ho hf hg hg2 h0 he) h2
  | ustop h h1 h2 h3 ih => intro E' hn ho; cases ho
  | ustep h h1 h2 h3 h4 ih1 ih2 =>
    intro E' hn ho hf hg hg2 h0 he
    have g1 := h1.grow
    have g2 := h4.grow
    simp only [MS.step] at g2
    exact .ustep h (ih1 hn rfl (by omega) (by omega) (by omega) h0 (tk _ _ _ _ (by omega) he)) h2 (by omega) (ih2 hn ho hf hg hg2 (by show 0 ≤ _; simp only [MS.step]; omega) he)
end Go.Proofs.YtdedkpfbfklgbaaGreat
namespace Go.Proofs.YtdedkpfbfklgbaaGreat
open Go.RowKit Go.SX
set_option maxRecDepth 100000
set_option maxHeartbeats 4000000
set_option linter.unusedVariables false
set_option linter.unusedSimpArgs false
def thenE (r : Option (Option Int × MS)) (k : MS → Option (Option Int × MS)) : Option (Option Int × MS) :=
  match r with
  | some (none, m) => k m
  | r => r
def ev (E : Env) : Nat → Task → MS → Option (Option Int × MS)
  | 0, _, _ => none
  | d + 1, .l [], m => some (none, m)
  | d + 1, .l (x :: xs), m => if m.steps < E.fuel then thenE (ev E d (.s x) m.step) fun m1 => ev E d (.l xs) m1 else some (some 7, m)
  | d + 1, .s x, m =>
    if x.Kind = 7 then ev E d (.e x.R x.Body 0) m
    else if x.Kind = 8 then ev E d (.l (if flagAt m.flags x.F = true then x.Body else x.Else)) m
    else if (0 ≤ x.Kind ∧ x.Kind ≤ 6) ∨ x.Kind = 11 ∨ x.Kind = 13 ∨ x.Kind = 14 then some (none, prim E.n x m)
    else none
  | d + 1, .e r xs i, m => if (i : Int) < E.n then thenE (ev E d (.l xs) (m.setR r i)) fun m1 => ev E d (.e r xs (i + 1)) m1 else some (none, m)
  | _ + 1, _, _ => none
theorem thenE_some {r : Option (Option Int × MS)} {k : MS → Option (Option Int × MS)} {o : Option Int} {m : MS} (h : thenE r k = some (o, m)) : (∃ e, r = some (some e, m) ∧ o = some e) ∨ ∃ m1, r = some (none, m1) ∧ k m1 = some (o, m) := by
  match r, h with
  | none, h => cases h
  | some (none, m1), h => exact .inr ⟨m1, rfl, h⟩
  | some (some e, m1), h => simp only [thenE, Option.some.injEq, Prod.mk.injEq] at h; exact .inl ⟨e, by rw [h.2], h.1.symm⟩
theorem ev_ex (E : Env) : ∀ (d : Nat) (T : Task) (m : MS) (o : Option Int) (m' : MS), ev E d T m = some (o, m') → Ex E T m o m' := by
  intro d
  induction d with
  | zero => intro T m o m' h; cases h
  | succ d ih =>
    intro T m o m' h
    cases T with
    | l xs =>
      cases xs with
      | nil => simp only [ev, Option.some.injEq, Prod.mk.injEq] at h; obtain ⟨rfl, rfl⟩ := h; exact .nil
      | cons x xs =>
        simp only [ev] at h
        split at h
        · rename_i hs
          rcases thenE_some h with ⟨e, h1, rfl⟩ | ⟨m1, h1, h2⟩
          · exact .bad hs (ih _ _ _ _ h1)
          · exact .cons hs (ih _ _ _ _ h1) (ih _ _ _ _ h2)
        · rename_i hs
          simp only [Option.some.injEq, Prod.mk.injEq] at h
          obtain ⟨rfl, rfl⟩ := h
          exact .stop hs
    | s x =>
      simp only [ev] at h
      split at h
      · rename_i hk; exact .each hk (ih _ _ _ _ h)
      · split at h
        · rename_i hk; exact .cond hk (ih _ _ _ _ h)
        · split at h
          · rename_i hk
            simp only [Option.some.injEq, Prod.mk.injEq] at h
            obtain ⟨rfl, rfl⟩ := h
            exact .prim (by unfold isPrim; omega)
          · cases h
    | e r xs i =>
      simp only [ev] at h
      split at h
      · rename_i hs
        rcases thenE_some h with ⟨e, h1, rfl⟩ | ⟨m1, h1, h2⟩
        · exact .ebad hs (ih _ _ _ _ h1)
        · exact .estep hs (ih _ _ _ _ h1) (ih _ _ _ _ h2)
      · rename_i hs
        simp only [Option.some.injEq, Prod.mk.injEq] at h
        obtain ⟨rfl, rfl⟩ := h
        exact .eend hs
    | t xs k => cases h
    | r xs k j => cases h
def nameE : ByteArray := ⟨#[69]⟩
def noLit : GLit := ⟨0, false, ⟨#[]⟩, []⟩
def edgesC : GCode := ⟨2, 2, [], [⟨7, 0, 0, 0, 0, ⟨#[]⟩, ⟨#[]⟩, noLit, [], [⟨7, 0, 0, 1, 0, ⟨#[]⟩, ⟨#[]⟩, noLit, [], [⟨0, 1, 0, 0, 0, ⟨#[]⟩, ⟨#[]⟩, ⟨0, false, nameE, [0, 1]⟩, [], [], []⟩, ⟨3, 0, 1, 0, 0, ⟨#[]⟩, ⟨#[]⟩, noLit, [], [], []⟩], []⟩], []⟩]⟩
def edgesS : GStr := ⟨2, [⟨nameE, 2, [[0, 1]]⟩]⟩
theorem edges_bad : (checkedP edgesC).bad = false := by kernel_rfl
theorem edges_S : (checkedP edgesC).S = [(nameE, 2)] := by kernel_rfl
theorem edges_valid : validStr edgesS = true := by kernel_rfl
theorem edges_find : findI edgesS nameE 2 = 0 := by kernel_rfl
theorem edges_ev : (ev ⟨2, [], 100⟩ 40 (.l edgesC.Body) (m0 edgesC edgesS)).map (fun r => (r.1, flagAt r.2.flags 0, r.2.steps)) = some (none, true, 11) := by kernel_rfl
theorem edges_time : timeR edgesC = ([1, 1, 2], 0) := by
  have h1 : untilB edgesC.Body = false := by kernel_rfl
  have h2 : timeL edgesC.Body [] = [1, 1, 2] := by kernel_rfl
  rw [timeR, if_neg (by rw [edges_bad]; simp), if_neg (by rw [h1]; simp), h2, if_neg (by simp)]
theorem edges_run {b : Bool} {n g e : Int} (h : RunR edgesC edgesS [] 100 b n g e) : b = true ∧ n = 11 ∧ e = 0 := by
  have hok : RunOk edgesC edgesS 100 := ⟨edges_bad, edges_valid, by rw [edges_S]; intro p hp; simp at hp; subst hp; rw [edges_find]; omega, by omega, by intro a ha; cases ha⟩
  have he := edges_ev
  obtain ⟨o, m', hm⟩ : ∃ o m', ev ⟨2, [], 100⟩ 40 (.l edgesC.Body) (m0 edgesC edgesS) = some (o, m') := by
    cases hv : ev ⟨2, [], 100⟩ 40 (.l edgesC.Body) (m0 edgesC edgesS) with
    | none => rw [hv] at he; cases he
    | some r => exact ⟨r.1, r.2, rfl⟩
  rw [hm] at he
  simp only [Option.map_some, Option.some.injEq, Prod.mk.injEq] at he
  obtain ⟨rfl, h2, h3⟩ := he
  have hx := ev_ex _ _ _ _ _ _ hm
  cases h with
  | form h => rcases h with h | h
              · rw [edges_bad] at h; cases h
              · rw [edges_valid] at h; cases h
  | name h1 h2' p hp h => have := hok.found p hp; omega
  | arg h1 h2' h3' h => omega
  | size h1 h2' h3' h4 a ha h => cases ha
  | ok h hx2 =>
    obtain ⟨_, rfl⟩ := hx.det hx2
    exact ⟨h2, h3, rfl⟩
  | stop h hx2 => exact absurd (hx.det hx2).1 (by simp)
end Go.Proofs.YtdedkpfbfklgbaaGreat
namespace Go.Proofs.YtdedkpfbfklgbaaGreat
open Go.RowKit Go.SX
set_option maxRecDepth 100000
set_option maxHeartbeats 4000000
set_option linter.unusedVariables false
set_option linter.unusedSimpArgs false
theorem law_edges : Tri Tryz.prog 23 [] [] (D edgesC.av []) := by
  refine Tri.enter 13 Tryz.func23 rfl rfl rfl rfl fun Fr w0 => ?_
  repeat' (first | (refine AW.r 0 ?_ <;> refine AL.alloc_z (t := 25) (.st [.int .i64 0, .int .i64 0, .sl [], .sl []]) (by kernel_rfl) rfl rfl fun br => ?_ <;> refine AL.nil ?_) | refine AW.jt ?_ | refine AW.jf ?_ | refine AW.jj (fun hb => ?_) (fun hb => ?_) | refine AW.go ?_ | fail)
  repeat' (first | (refine AW.r 1 ?_ <;> refine AL.d (AOp.lit (t := 40) (e := 3) (sz := 1) (by kernel_rfl) rfl rfl rfl (by simp [AV.size, ofConst]) (by decide)) ?_ <;> refine AL.d (AOp.build (pl := [(0, 1), (1, 1), (2, 1), (3, 1)]) (z := .st [.int .i64 0, .bool false, .str ⟨#[]⟩, .sl []]) (by kernel_rfl) rfl rfl rfl) ?_ <;> refine AL.d (AOp.build (pl := [(0, 1), (1, 1), (2, 1), (3, 1), (4, 1), (5, 1), (6, 1), (7, 4), (11, 1), (12, 1), (13, 1)]) (z := .st [.int .i64 0, .int .i64 0, .int .i64 0, .int .i64 0, .int .i64 0, .str ⟨#[]⟩, .str ⟨#[]⟩, .st [.int .i64 0, .bool false, .str ⟨#[]⟩, .sl []], .sl [], .sl [], .sl []]) (by kernel_rfl) rfl rfl rfl) ?_ <;> refine AL.alloc_store (by kernel_rfl) rfl rfl rfl rfl ?_ <;> refine AL.nil ?_) | refine AW.jt ?_ | refine AW.jf ?_ | refine AW.jj (fun hb => ?_) (fun hb => ?_) | refine AW.go ?_ | fail)
  repeat' (first | (refine AW.r 2 ?_ <;> (first | refine AL.d AOp.la ?_ | refine AL.d (AOp.lw 0) ?_) <;> refine AL.d (AOp.build (pl := [(0, 1), (1, 1), (2, 1), (3, 1), (4, 1), (5, 1), (6, 1), (7, 4), (11, 1), (12, 1), (13, 1)]) (z := .st [.int .i64 0, .int .i64 0, .int .i64 0, .int .i64 0, .int .i64 0, .str ⟨#[]⟩, .str ⟨#[]⟩, .st [.int .i64 0, .bool false, .str ⟨#[]⟩, .sl []], .sl [], .sl [], .sl []]) (by kernel_rfl) rfl rfl rfl) ?_ <;> refine AL.d (AOp.lit (t := 23) (e := 93) (sz := 14) (by kernel_rfl) rfl rfl rfl (by simp [AV.size, AV.sizes, ofConst]) (by decide)) ?_ <;> refine AL.d (AOp.build (pl := [(0, 1), (1, 1), (2, 1), (3, 1), (4, 1), (5, 1), (6, 1), (7, 4), (11, 1), (12, 1), (13, 1)]) (z := .st [.int .i64 0, .int .i64 0, .int .i64 0, .int .i64 0, .int .i64 0, .str ⟨#[]⟩, .str ⟨#[]⟩, .st [.int .i64 0, .bool false, .str ⟨#[]⟩, .sl []], .sl [], .sl [], .sl []]) (by kernel_rfl) rfl rfl rfl) ?_ <;> refine AL.d (AOp.lit (t := 23) (e := 93) (sz := 14) (by kernel_rfl) rfl rfl rfl (by simp [AV.size, AV.sizes, ofConst]) (by decide)) ?_ <;> refine AL.d (AOp.build (pl := [(0, 1), (1, 1), (2, 1), (3, 1), (4, 1), (5, 1), (6, 1), (7, 4), (11, 1), (12, 1), (13, 1)]) (z := .st [.int .i64 0, .int .i64 0, .int .i64 0, .int .i64 0, .int .i64 0, .str ⟨#[]⟩, .str ⟨#[]⟩, .st [.int .i64 0, .bool false, .str ⟨#[]⟩, .sl []], .sl [], .sl [], .sl []]) (by kernel_rfl) rfl rfl rfl) ?_ <;> refine AL.d (AOp.lit (t := 23) (e := 93) (sz := 14) (by kernel_rfl) rfl rfl rfl (by simp [AV.size, AV.sizes, ofConst]) (by decide)) ?_ <;> refine AL.d (AOp.build (pl := [(0, 1), (1, 1), (2, 1), (3, 1)]) (z := .st [.int .i64 0, .int .i64 0, .sl [], .sl []]) (by kernel_rfl) rfl rfl rfl) ?_ <;> refine AL.sl 0 ?_ <;> refine AL.nil ?_) | refine AW.jt ?_ | refine AW.jf ?_ | refine AW.jj (fun hb => ?_) (fun hb => ?_) | refine AW.go ?_ | fail)
  exact AW.retc (.cell 0 rfl rfl (by kernel_rfl) .nil) (List.nil_sublist _) ⟨rfl, rfl⟩
theorem Ex.total {F R : Nat} {sig : ByteArray → Option Nat} (E : Env) : ∀ (n : Nat) (l : List GStmt), cntL l ≤ n → (∀ x ∈ l, SFit F R sig x) → ∀ m, m.steps ≤ E.fuel → ∃ o m', Ex E (.l l) m o m' := by
  intro n
  induction n using Nat.strongRecOn with
  | _ n ih =>
    intro l hn hl
    induction l with
    | nil => intro m _; exact ⟨none, m, .nil⟩
    | cons x l ihl =>
      intro m hm
      have hx := hl x (by simp)
      have hcs := cntS_eq x
      have hcl : cntL (x :: l) = cntS x + cntL l := rfl
      have hb := ih (cntL x.Body) (by omega) x.Body (Nat.le_refl _) hx.body
      have he := ih (cntL x.Else) (by omega) x.Else (Nat.le_refl _) hx.els
      have hs : ∀ u : MS, u.steps ≤ E.fuel → ∃ o m', Ex E (.s x) u o m' := by
        have hk := hx.fit.kind
        have hc : isPrim x.Kind ∨ x.Kind = 7 ∨ x.Kind = 8 ∨ x.Kind = 9 ∨ x.Kind = 10 ∨ x.Kind = 12 := by unfold isPrim; omega
        rcases hc with h | h | h | h | h | h
        · intro u _; exact ⟨_, _, .prim h⟩
        · have key : ∀ (j i : Nat), E.n.toNat - i = j → ∀ u : MS, u.steps ≤ E.fuel → ∃ o m', Ex E (.e x.R x.Body i) u o m' := by
            intro j
            induction j with
            | zero => intro i hi u hu; exact ⟨none, u, .eend (by omega)⟩
            | succ j ihj =>
              intro i hi u hu
              obtain ⟨o, m1, h1⟩ := hb (u.setR x.R i) hu
              cases o with
              | some e => exact ⟨_, _, .ebad (by omega) h1⟩
              | none =>
                obtain ⟨o, m2, h2⟩ := ihj (i + 1) (by omega) m1 (h1.grow.2.2.1 hu)
                exact ⟨_, _, .estep (by omega) h1 h2⟩
          intro u hu
          obtain ⟨o, m', h1⟩ := key _ 0 rfl u hu
          exact ⟨_, _, .each h h1⟩
        · intro u hu
          by_cases hf : flagAt u.flags x.F = true
          · obtain ⟨o, m', h1⟩ := hb u hu
            exact ⟨_, _, .cond h (by rw [if_pos hf]; exact h1)⟩
          · obtain ⟨o, m', h1⟩ := he u hu
            exact ⟨_, _, .cond h (by rw [if_neg hf]; exact h1)⟩
        · have key : ∀ (k : Nat) (u : MS), u.steps ≤ E.fuel → ∃ o m', Ex E (.t x.Body k) u o m' := by
            intro k
            induction k with
            | zero => intro u hu; obtain ⟨o, m', h1⟩ := hb u hu; exact ⟨_, _, .tz h1⟩
            | succ k ihk =>
              have key2 : ∀ (j : Nat) (u : MS), u.steps ≤ E.fuel → ∃ o m', Ex E (.r x.Body k j) u o m' := by
                intro j
                induction j with
                | zero => intro u hu; exact ⟨none, u, .rz⟩
                | succ j ihj =>
                  intro u hu
                  obtain ⟨o, m1, h1⟩ := ihk u hu
                  cases o with
                  | some e => exact ⟨_, _, .rbad h1⟩
                  | none =>
                    obtain ⟨o, m2, h2⟩ := ihj m1 (h1.grow.2.2.1 hu)
                    exact ⟨_, _, .rstep h1 h2⟩
              intro u hu
              obtain ⟨o, m', h1⟩ := key2 E.n.toNat u hu
              exact ⟨_, _, .ts h1⟩
          intro u hu
          by_cases h0 : x.Body = []
          · exact ⟨_, _, .t0 h h0⟩
          · obtain ⟨o, m', h1⟩ := key x.N.toNat u hu
            exact ⟨_, _, .t1 h h0 h1⟩
        · have key : ∀ (j : Nat) (u : MS), (E.fuel - u.steps).toNat = j → u.steps ≤ E.fuel → ∃ o m', Ex E (.s x) u o m' := by
            intro j
            induction j using Nat.strongRecOn with
            | _ j ihj =>
              intro u hj hu
              obtain ⟨o, m1, h1⟩ := hb u hu
              have g := h1.grow
              have g3 := g.2.2.1 hu
              cases o with
              | some e => exact ⟨_, _, .ubad h h1⟩
              | none =>
                by_cases hf : flagAt m1.flags x.F = true
                · exact ⟨_, _, .uend h h1 hf⟩
                · have hf' : flagAt m1.flags x.F = false := by simpa using hf
                  by_cases hs : m1.steps < E.fuel
                  · have hst : m1.step.steps = m1.steps + 1 := rfl
                    obtain ⟨o, m2, h2⟩ := ihj (E.fuel - m1.step.steps).toNat (by omega) m1.step rfl (by omega)
                    exact ⟨_, _, .ustep h h1 hf' hs h2⟩
                  · exact ⟨_, _, .ustop h h1 hf' hs⟩
          intro u hu
          exact key _ u rfl hu
        · intro u hu
          by_cases hg : (E.G.length : Int) - u.used < (u.rels x.Name).length
          · exact ⟨_, _, .gbad h hg⟩
          · exact ⟨_, _, .gok h hg⟩
      by_cases h1 : m.steps < E.fuel
      · obtain ⟨o, m1, h2⟩ := hs m.step (by show m.steps + 1 ≤ _; omega)
        cases o with
        | some e => exact ⟨_, _, .bad h1 h2⟩
        | none =>
          obtain ⟨o, m2, h3⟩ := ihl (by omega) (fun y hy => hl y (by simp [hy])) m1 (h2.grow.2.2.1 (by show m.steps + 1 ≤ _; omega))
          exact ⟨_, _, .cons h1 h2 h3⟩
      · exact ⟨_, _, .stop h1⟩
theorem RunR.total (c : GCode) (s : GStr) (G : List Bool) (fuel : Int) : ∃ b n g e, RunR c s G fuel b n g e := by
  by_cases h1 : (checkedP c).bad = true
  · exact ⟨_, _, _, _, .form (.inl h1)⟩
  have h1 : (checkedP c).bad = false := by simpa using h1
  by_cases h2 : validStr s = true
  · by_cases h3 : ∀ p ∈ (checkedP c).S, 0 ≤ findI s p.1 p.2
    · by_cases h4 : 0 ≤ fuel ∧ fuel ≤ 10000000
      · by_cases h5 : ∀ a ∈ c.Arrays, (powerR s.Size a.Arity).2 = 0
        · have hok : RunOk c s fuel := ⟨h1, h2, h3, h4, h5⟩
          obtain ⟨o, m, hx⟩ := Ex.total ⟨s.Size, G, fuel⟩ (cntL c.Body) c.Body (Nat.le_refl _) (chk_ok h1).body (m0 c s) h4.1
          cases o with
          | none => exact ⟨_, _, _, _, .ok hok hx⟩
          | some e => exact ⟨_, _, _, _, .stop hok hx⟩
        · have : ∃ a ∈ c.Arrays, (powerR s.Size a.Arity).2 ≠ 0 := by
            apply Classical.byContradiction
            intro hc
            exact h5 fun a ha => Classical.byContradiction fun hn => hc ⟨a, ha, hn⟩
          obtain ⟨a, ha, h⟩ := this
          exact ⟨_, _, _, _, .size h1 h2 h3 h4 a ha h⟩
      · exact ⟨_, _, _, _, .arg h1 h2 h3 (by omega)⟩
    · have : ∃ p ∈ (checkedP c).S, findI s p.1 p.2 < 0 := by
        apply Classical.byContradiction
        intro hc
        exact h3 fun p hp => Classical.byContradiction fun hn => hc ⟨p, hp, by omega⟩
      obtain ⟨p, hp, h⟩ := this
      exact ⟨_, _, _, _, .name h1 h2 p hp h⟩
  · exact ⟨_, _, _, _, .form (.inr (by simpa using h2))⟩
theorem RunR.det {c : GCode} {s : GStr} {G : List Bool} {fuel : Int} {b b' : Bool} {n n' g g' e e' : Int} (h : RunR c s G fuel b n g e) (k : RunR c s G fuel b' n' g' e') : b = b' ∧ n = n' ∧ g = g' ∧ e = e' := by
  cases h with
  | form h =>
    cases k with
    | form k => exact ⟨rfl, rfl, rfl, rfl⟩
    | ok k _ => rcases h with h | h; rw [k.bad] at h; cases h; rw [k.valid] at h; cases h
    | stop k _ => rcases h with h | h; rw [k.bad] at h; cases h; rw [k.valid] at h; cases h
    | _ => simp_all
  | name h1 h2 p hp h =>
    cases k with
    | name => exact ⟨rfl, rfl, rfl, rfl⟩
    | form k => simp_all
    | arg k1 k2 k3 k => have := k3 p hp; omega
    | size k1 k2 k3 k4 a ha k => have := k3 p hp; omega
    | ok k _ => have := k.found p hp; omega
    | stop k _ => have := k.found p hp; omega
  | arg h1 h2 h3 h =>
    cases k with
    | arg => exact ⟨rfl, rfl, rfl, rfl⟩
    | form k => simp_all
    | name k1 k2 p hp k => have := h3 p hp; omega
    | size k1 k2 k3 k4 a ha k => omega
    | ok k _ => have := k.fuel; omega
    | stop k _ => have := k.fuel; omega
  | size h1 h2 h3 h4 a ha h =>
    cases k with
    | size => exact ⟨rfl, rfl, rfl, rfl⟩
    | form k => simp_all
    | name k1 k2 p hp k => have := h3 p hp; omega
    | arg k1 k2 k3 k => omega
    | ok k _ => exact absurd (k.size a ha) h
    | stop k _ => exact absurd (k.size a ha) h
  | ok h hx =>
    cases k with
    | ok k kx => obtain ⟨_, rfl⟩ := hx.det kx; exact ⟨rfl, rfl, rfl, rfl⟩
    | stop k kx => exact absurd (hx.det kx).1 (by simp)
    | form k => rcases k with k | k; rw [h.bad] at k; cases k; rw [h.valid] at k; cases k
    | name k1 k2 p hp k => have := h.found p hp; omega
    | arg k1 k2 k3 k => have := h.fuel; omega
    | size k1 k2 k3 k4 a ha k => exact absurd (h.size a ha) k
  | stop h hx =>
    cases k with
    | ok k kx => exact absurd (hx.det kx).1 (by simp)
    | stop k kx => obtain ⟨e, _⟩ := hx.det kx; cases e; exact ⟨rfl, rfl, rfl, rfl⟩
    | form k => rcases k with k | k; rw [h.bad] at k; cases k; rw [h.valid] at k; cases k
    | name k1 k2 p hp k => have := h.found p hp; omega
    | arg k1 k2 k3 k => have := h.fuel; omega
    | size k1 k2 k3 k4 a ha k => exact absurd (h.size a ha) k
theorem Tri.forget {P : Program} {f : FuncId} {args : List AV} {Ψ : AEnd → Prop} (h : Tri P f args [] (fun x _ => Ψ x)) : Tri P f args [] (fun x h => Ψ x ∧ h = []) := by
  refine ⟨h.1, fun Fr w vs hst hrel => (h.2 Fr w vs hst hrel).mono fun e w' => ?_⟩
  rintro ⟨x, ah', hΨ, he, hs, hx, hn⟩
  have hsub := List.nil_sublist ah'
  refine ⟨x, [], ⟨hΨ, rfl⟩, ?_, hs.sub hsub, hx, fun b o _ hr => ?_⟩
  · cases x with
    | ret v => obtain ⟨u, e1, e2⟩ := he; exact ⟨u, e1, e2.mv (Mv.same w' fun b o hs => hs.elim .inl fun hr => .inr (reg_sub hsub hr))⟩
    | pan v => obtain ⟨u, e1, e2⟩ := he; exact ⟨u, e1, e2.mv (Mv.same w' fun b o hs => hs.elim .inl fun hr => .inr (reg_sub hsub hr))⟩
  · obtain ⟨y, hy, _⟩ := hr; cases hy
theorem code_RunD (c : GCode) (s : GStr) (G : List Bool) (fuel : Int) (hc : c.Ok) (hs : s.Ok) (hG : G.length ≤ 4611686018427387904) : ∃ b n g e, RunR c s G fuel b n g e ∧ Tri Tryz.prog 8 [c.av, s.av, bools G, .int .i64 fuel] [] (D (.tup [.bool b, .int .i64 n, .int .i64 g, .int .i64 e]) []) := by
  obtain ⟨b, n, g, e, h⟩ := RunR.total c s G fuel
  refine ⟨b, n, g, e, h, ((Tri.forget (code_RunC c s G fuel hc hs hG)).mono ?_)⟩
  rintro x a ⟨⟨b', n', g', e', h', rfl⟩, rfl⟩
  obtain ⟨rfl, rfl, rfl, rfl⟩ := h.det h'
  exact ⟨rfl, rfl⟩
end Go.Proofs.YtdedkpfbfklgbaaGreat
namespace Go.Proofs.YtdedkpfbfklgbaaGreat
open Go.RowKit Go.SX
set_option maxRecDepth 100000
set_option maxHeartbeats 4000000
set_option linter.unusedVariables false
set_option linter.unusedSimpArgs false
theorem checked_S {c : GCode} (hb : (checkedP c).bad = false) : ∀ k, lookA (checkedP c).S k = arOf (testsL (arOf c.Arrays) c.Body []) k := by
  have hA := arrsP_iff c.Arrays (chk0 c) ⟨[], 0⟩ [] (fun k => rfl)
  have hcnt := arrsP_cnt c.Arrays (chk0 c) ⟨[], 0⟩
  have hc0 : (chk0 c).c = c := rfl
  have hS0 : (chk0 c).S = [] := rfl
  have hn0 : (chk0 c).cnt = 0 := rfl
  rw [hc0, hS0] at hA
  rw [hn0] at hcnt
  unfold checkedP at hb ⊢
  generalize (arrsP c.Arrays (chk0 c) ⟨[], 0⟩).1 = s1 at *
  obtain ⟨a1, a2, a3, a4⟩ := hA
  cases hp : s1.bad with
  | true =>
    have hbb : (bodyP c.Body s1).bad = true := by
      cases c.Body with
      | nil => exact hp
      | cons y l => rw [bodyP, if_pos hp]; exact hp
    rw [hbb] at hb; cases hb
  | false =>
    have hAr : lookA s1.A = arOf c.Arrays := funext fun k => by simpa using a2 hp k
    have hB := (bodyP_iff c.Body s1 [] hp (by rw [a4]; intro k; rfl) rfl (by omega)).2 hb
    rw [hAr] at hB
    exact hB.R
theorem checked_cons {c : GCode} (hb : (checkedP c).bad = false) : consT (testsL (arOf c.Arrays) c.Body []) = true ∧ cntL c.Body ≤ 20000 := by
  rw [checked_iff] at hb
  have h : refValid c = true := by simpa using hb
  unfold refValid at h
  simp only [Bool.and_eq_true, decide_eq_true_eq] at h
  exact ⟨h.2, h.1.2.1.1⟩
def goodT (a : GSym) : Prop := 0 ≤ a.Arity ∧ a.Arity ≤ 12 ∧ nameB a.Name = true
theorem ownT_good {A : Ar} {fl rg : Int} {s : GStmt} (h : refS A fl rg s = true) : ∀ a ∈ ownT A s, goodT a := by
  intro a ha
  unfold ownT at ha
  split at ha
  · rename_i hk
    rw [fldAll, if_pos hk.1] at h
    simp only [Bool.and_eq_true] at h
    have h2 := h.2
    unfold litB at h2
    rw [if_neg (by omega)] at h2
    simp only [Bool.and_eq_true, decide_eq_true_eq] at h2
    obtain rfl := List.mem_singleton.1 ha
    exact ⟨by simp, by have := h2.2.1.2; simp; omega, h2.2.1.1.2⟩
  · cases ha
mutual
theorem testsS_good {A : Ar} {fl rg : Int} : ∀ (s : GStmt) (out : List GSym), allS (refS A fl rg) s = true → (∀ a ∈ out, goodT a) → ∀ a ∈ testsS A s out, goodT a
  | ⟨k, f, g, r, n, nm, fr, lit, regs, body, els⟩, out, h, ho => by
    rw [allS, Bool.and_eq_true, Bool.and_eq_true] at h
    rw [testsS]
    exact testsL_good els _ h.2 (testsL_good body _ h.1.2 fun a ha => (List.mem_append.1 ha).elim (ho a) (ownT_good h.1.1 a))
theorem testsL_good {A : Ar} {fl rg : Int} : ∀ (l : List GStmt) (out : List GSym), allL (refS A fl rg) l = true → (∀ a ∈ out, goodT a) → ∀ a ∈ testsL A l out, goodT a
  | [], out, _, ho => by rw [testsL]; exact ho
  | s :: l, out, h, ho => by
    rw [allL, Bool.and_eq_true] at h
    rw [testsL]
    exact testsL_good l _ h.2 (testsS_good s out h.1 ho)
end
def symsT (c : GCode) : List GSym := testsL (arOf c.Arrays) c.Body []
theorem symsT_good {c : GCode} (hb : (checkedP c).bad = false) : ∀ a ∈ symsT c, goodT a := testsL_good c.Body [] (ref_all hb) (by simp)
theorem symsT_ok {c : GCode} (hb : (checkedP c).bad = false) : symOkT (symsT c) := by
  have h1 := testsL_len (arOf c.Arrays) c.Body []
  have h2 := (checked_cons hb).2
  rw [List.length_nil, Nat.zero_add] at h1
  exact ⟨Nat.le_trans h1 (by omega), fun a ha => by have := symsT_good hb a ha; exact ⟨this.1, by have := this.2.1; omega⟩⟩
theorem arOf_mem {T : List GSym} (hc : consT T = true) {a : GSym} (h : a ∈ T) : arOf T a.Name = some a.Arity := by
  unfold consT at hc
  simpa using List.all_eq_true.1 hc a h
theorem arOf_some {T : List GSym} {k : ByteArray} {n : Int} (h : arOf T k = some n) : ∃ a ∈ T, a.Name = k ∧ a.Arity = n := by
  unfold arOf at h
  rw [Option.map_eq_some_iff] at h
  obtain ⟨a, h1, h2⟩ := h
  have := List.find?_some h1
  exact ⟨a, List.mem_of_find?_eq_some h1, by simpa using this, h2⟩
theorem name_ne {a : GSym} (h : goodT a) : a.Name ≠ empS := by
  intro e
  have := h.2.2
  rw [e] at this
  simp [nameB, empS, ByteArray.size] at this
theorem ordGo_mem : ∀ (l : List GSym) (o : List ByteArray) (x : ByteArray), x ∈ ordGo l o ↔ x ∈ o ∨ (x ≠ empS ∧ ∃ a ∈ l, a.Name = x)
  | [], o, x => by simp [ordGo]
  | a :: l, o, x => by
    rw [ordGo, ordGo_mem l]
    by_cases h : a.Name = empS
    · rw [if_pos h]
      constructor
      · rintro (h1 | ⟨h1, b, h2, h3⟩)
        · exact .inl h1
        · exact .inr ⟨h1, b, by simp [h2], h3⟩
      · rintro (h1 | ⟨h1, b, h2, h3⟩)
        · exact .inl h1
        · rcases List.mem_cons.1 h2 with rfl | h2
          · exact absurd (h3 ▸ h) h1
          · exact .inr ⟨h1, b, h2, h3⟩
    · rw [if_neg h, risP_mem]
      constructor
      · rintro ((h1 | h1) | ⟨h1, b, h2, h3⟩)
        · exact .inr ⟨by rw [h1]; exact h, a, by simp, h1.symm⟩
        · exact .inl h1
        · exact .inr ⟨h1, b, by simp [h2], h3⟩
      · rintro (h1 | ⟨h1, b, h2, h3⟩)
        · exact .inl (.inr h1)
        · rcases List.mem_cons.1 h2 with rfl | h2
          · exact .inl (.inl h3.symm)
          · exact .inr ⟨h1, b, h2, h3⟩
theorem symsP_mem {T : List GSym} (hc : consT T = true) (hg : ∀ a ∈ T, goodT a) (b : GSym) : b ∈ symsP T ↔ b ∈ T := by
  have har : ∀ a ∈ T, arOf (atomsP T) a.Name = some a.Arity := fun a ha => by
    rw [atomsP, show (⟨empS, 0⟩ : GSym) :: T = [⟨empS, 0⟩] ++ T from rfl, arOf_append, arOf_one, if_neg (fun e => name_ne (hg a ha) e.symm)]
    exact arOf_mem hc ha
  unfold symsP
  rw [List.mem_map]
  constructor
  · rintro ⟨n, hn, rfl⟩
    rw [ordGo_mem] at hn
    rcases hn with hn | ⟨h1, a, h2, h3⟩
    · cases hn
    · rw [atomsP] at h2
      rcases List.mem_cons.1 h2 with rfl | h2
      · exact absurd h3.symm h1
      · subst h3
        rw [har a h2]
        exact h2
  · intro hb
    refine ⟨b.Name, (ordGo_mem _ _ _).2 (.inr ⟨name_ne (hg b hb), b, by simp [atomsP, hb], rfl⟩), ?_⟩
    rw [har b hb]; rfl
theorem rels_first {n : Int} {all : List GRel} : ∀ (l : List GRel) (i : Nat), relsGo n all i l = true → ∀ (j : Nat) r, l[j]? = some r → ∀ q ∈ all.take (i + j), q.Name ≠ r.Name
  | [], _, _, j, r, hj => by simp at hj
  | x :: l, i, h, j, r, hj => by
    rw [relsGo, Bool.and_eq_true, Bool.and_eq_true] at h
    intro q hq
    cases j with
    | zero =>
      obtain rfl : x = r := by simpa using hj
      have h2 := h.1.2
      rw [Bool.not_eq_true', List.any_eq_false] at h2
      simpa using h2 q hq
    | succ j => exact rels_first l (i + 1) h.2 j r (by simpa using hj) q (by rw [show i + 1 + j = i + (j + 1) by omega]; exact hq)
theorem find_uniq {s : GStr} (hv : validStr s = true) {r : GRel} (h : r ∈ s.Rels) : s.Rels.find? (fun q => decide (q.Name = r.Name)) = some r := by
  have hg : relsGo s.Size s.Rels 0 s.Rels = true := by unfold validStr at hv; simp only [Bool.and_eq_true] at hv; exact hv.2
  obtain ⟨j, hj⟩ := List.getElem?_of_mem h
  cases hf : s.Rels.find? (fun q => decide (q.Name = r.Name)) with
  | none => rw [List.find?_eq_none] at hf; exact absurd (by simp) (hf r h)
  | some q =>
    have hq : q.Name = r.Name := by simpa using List.find?_some hf
    obtain ⟨k, hk⟩ := List.getElem?_of_mem (List.mem_of_find?_eq_some hf)
    rcases Nat.lt_trichotomy k j with hlt | rfl | hlt
    · exact absurd hq (rels_first _ 0 hg j r hj q (List.mem_iff_getElem?.2 ⟨k, by rw [List.getElem?_take, if_pos (by omega)]; exact hk⟩))
    · rw [hk] at hj; exact hj
    · exact absurd hq.symm (rels_first _ 0 hg k q hk r (List.mem_iff_getElem?.2 ⟨j, by rw [List.getElem?_take, if_pos (by omega)]; exact hj⟩))
def fitA (s : GStr) (a : GSym) : Bool := match s.Rels.find? (fun q => decide (q.Name = a.Name)) with | some r => decide (r.Arity = a.Arity) | none => false
def fitsB (s : GStr) (l : List GSym) : Bool := l.all (fitA s)
theorem fitA_find {s : GStr} (hv : validStr s = true) (a : GSym) : fitA s a = true ↔ 0 ≤ findI s a.Name a.Arity := by
  have h := idxFrom_lt (p := fun q : GRel => decide (q.Name = a.Name) && decide (q.Arity = a.Arity)) s.Rels 0
  have h' : (0 ≤ findI s a.Name a.Arity) = ((s.Rels.any fun q => decide (q.Name = a.Name) && decide (q.Arity = a.Arity)) = true) := h
  rw [h', List.any_eq_true]
  unfold fitA
  constructor
  · intro hf
    cases hx : s.Rels.find? (fun q => decide (q.Name = a.Name)) with
    | none => rw [hx] at hf; cases hf
    | some r =>
      rw [hx] at hf
      have := List.find?_some hx
      exact ⟨r, List.mem_of_find?_eq_some hx, by simp only [Bool.and_eq_true]; exact ⟨this, hf⟩⟩
  · rintro ⟨r, hr, h1⟩
    simp only [Bool.and_eq_true, decide_eq_true_eq] at h1
    rw [← h1.1, find_uniq hv hr]
    simpa using h1.2
theorem fits_iff {c : GCode} {s : GStr} (hb : (checkedP c).bad = false) (hv : validStr s = true) : fitsB s (symsP (symsT c)) = true ↔ ∀ p ∈ (checkedP c).S, 0 ≤ findI s p.1 p.2 := by
  have hc := (checked_cons hb).1
  have hg := symsT_good hb
  have hS := checked_S hb
  have hck := chk_ok hb
  unfold fitsB
  rw [List.all_eq_true]
  constructor
  · intro h p hp
    have hl : lookA (checkedP c).S p.1 = some p.2 := look_mem hck.keys hp
    rw [hS] at hl
    obtain ⟨a, ha, h1, h2⟩ := arOf_some hl
    have := (fitA_find hv a).1 (h a ((symsP_mem hc hg a).2 ha))
    rw [h1, h2] at this
    exact this
  · intro h a ha
    have ha' := (symsP_mem hc hg a).1 ha
    have hl := arOf_mem hc ha'
    change arOf (testsL (arOf c.Arrays) c.Body []) a.Name = some a.Arity at hl
    rw [← hS] at hl
    exact (fitA_find hv a).2 (h _ (sym_mem hl))
def findN (s : GStr) (n : ByteArray) : Int := idxFrom (fun q : GRel => decide (q.Name = n)) s.Rels 0
theorem findN_spec (s : GStr) (n : ByteArray) : (findN s n = -1 ∧ s.Rels.find? (fun q => decide (q.Name = n)) = none) ∨ ∃ (k : Nat) (r : GRel), findN s n = (k : Int) ∧ s.Rels[k]? = some r ∧ s.Rels.find? (fun q => decide (q.Name = n)) = some r := by
  have key : ∀ (l : List GRel) (i : Nat), (idxFrom (fun q : GRel => decide (q.Name = n)) l i = -1 ∧ l.find? (fun q => decide (q.Name = n)) = none) ∨ ∃ (k : Nat) (r : GRel), idxFrom (fun q : GRel => decide (q.Name = n)) l i = ((i + k : Nat) : Int) ∧ l[k]? = some r ∧ l.find? (fun q => decide (q.Name = n)) = some r := by
    intro l
    induction l with
    | nil => intro i; exact .inl ⟨rfl, rfl⟩
    | cons x l ih =>
      intro i
      rw [idxFrom]
      by_cases hx : x.Name = n
      · rw [if_pos (by simpa using hx)]
        exact .inr ⟨0, x, rfl, rfl, by simp [hx]⟩
      · rw [if_neg (by simpa using hx)]
        rcases ih (i + 1) with ⟨h1, h2⟩ | ⟨k, r, h1, h2, h3⟩
        · exact .inl ⟨h1, by simp [hx, h2]⟩
        · exact .inr ⟨k + 1, r, by rw [h1]; congr 1; omega, by simpa using h2, by simp [hx, h3]⟩
  rcases key s.Rels 0 with h | ⟨k, r, h1, h2⟩
  · exact .inl h
  · exact .inr ⟨k, r, by unfold findN; rw [h1, Nat.zero_add], h2⟩
theorem ref_FindS (s : GStr) (hs : s.Ok) (n : ByteArray) : Tri Tryz.prog 89 [s.av, .str n] [] (D (.int .i64 (findN s n)) []) := by
  have hl : s.Rels.length ≤ 4611686018427387904 := by have := hs.2.1; omega
  refine Tri.enter 22 Tryz.func89 rfl rfl rfl rfl fun Fr w0 => ?_
  repeat' (first | (refine AW.r 0 ?_ <;> (first | refine AL.d (AOp.box_ro rfl rfl) ?_ | refine AL.d (AOp.box_ro rfl rfl) ?_) <;> refine AL.es 1 ?_ <;> refine AL.nil ?_) | refine AW.re 1 1 ?_ | refine AW.jt ?_ | refine AW.jf ?_ | refine AW.jj (fun hb => ?_) (fun hb => ?_) | refine AW.go ?_ | fail)
  refine AW.prune [1, 2, 5] (AW.loop (fun mz af h => ∃ (i : Nat), i ≤ s.Rels.length ∧ mz = s.Rels.length - i ∧ af = [(1, .str n), (2, .at s.av), (5, .int .i64 i)] ∧ h = [] ∧ findN s n = idxFrom (fun q : GRel => decide (q.Name = n)) (s.Rels.drop i) i) s.Rels.length ⟨0, Nat.zero_le _, rfl, rfl, rfl, rfl⟩ ?_)
  rintro mz af h ⟨i, hi, rfl, rfl, rfl, he⟩
  refine AW.seq ?_
  by_cases hlt : i < s.Rels.length
  · obtain ⟨x, hx⟩ := get_lt hlt
    have hx' : (s.Rels.map GRel.av)[((i : Nat) : Int).toNat]? = some x.av := map_get hx
    rw [drop_cons hx, idxFrom] at he
    repeat' (first | refine AW.re 2 5 ?_ | (refine AW.r 4 ?_ <;> refine AL.es 3 ?_ <;> refine AL.d (AOp.index_sl rfl rfl (by omega) hx' (by kernel_rfl) rfl) ?_ <;> refine AL.es 4 ?_ <;> refine AL.nil ?_) | refine AW.re 5 2 ?_ | (refine AW.r 3 ?_ <;> refine AL.es 1 ?_ <;> refine AL.d AOp.ad ?_ <;> refine AL.es 1 ?_ <;> refine AL.nil ?_) | refine AW.jt ?_ | refine AW.jf ?_ | refine AW.jj (fun hb => ?_) (fun hb => ?_) | refine AW.go ?_ | fail)
    all_goals try (exfalso; simp only [decide_eq_true_eq, decide_eq_false_iff_not, List.length_map] at *; omega)
    all_goals rw [toList_beq] at hb
    · rw [if_pos (by simpa using hb)] at he
      exact AW.retv rfl ⟨by rw [he], rfl⟩
    · rw [if_neg (by simpa using hb)] at he
      exact AW.again_keep (s.Rels.length - (i + 1)) [1, 2, 5] (by omega) ⟨i + 1, hlt, rfl, rfl, rfl, he⟩
  · rw [List.drop_eq_nil_of_le (by omega), idxFrom] at he
    repeat' (first | refine AW.re 2 5 ?_ | refine AW.re 6 1 ?_ | refine AW.jt ?_ | refine AW.jf ?_ | refine AW.jj (fun hb => ?_) (fun hb => ?_) | refine AW.go ?_ | fail)
    all_goals try (exfalso; simp only [decide_eq_true_eq, decide_eq_false_iff_not, List.length_map] at *; omega)
    exact AW.retv rfl ⟨by rw [he]; rfl, rfl⟩
theorem ref_Fits (s : GStr) (hs : s.Ok) (l : List GSym) (hll : l.length ≤ 4611686018427387904) : Tri Tryz.prog 33 [s.av, .sl (l.map GSym.av)] [] (D (.bool (fitsB s l)) []) := by
  refine Tri.enter 36 Tryz.func33 rfl rfl rfl rfl fun Fr w0 => ?_
  repeat' (first | (refine AW.r 0 ?_ <;> (first | refine AL.d (AOp.box_ro rfl rfl) ?_ | refine AL.d (AOp.box_ro rfl rfl) ?_) <;> refine AL.es 1 ?_ <;> refine AL.nil ?_) | refine AW.re 1 1 ?_ | refine AW.jt ?_ | refine AW.jf ?_ | refine AW.jj (fun hb => ?_) (fun hb => ?_) | refine AW.go ?_ | fail)
  refine AW.prune [1, 2, 5] (AW.loop (fun mz af h => ∃ (i : Nat), i ≤ l.length ∧ mz = l.length - i ∧ af = [(1, .sl (l.map GSym.av)), (2, .at s.av), (5, .int .i64 i)] ∧ h = [] ∧ fitsB s l = fitsB s (l.drop i)) l.length ⟨0, Nat.zero_le _, rfl, rfl, rfl, rfl⟩ ?_)
  rintro mz af h ⟨i, hi, rfl, rfl, rfl, he⟩
  refine AW.seq ?_
  by_cases hlt : i < l.length
  · obtain ⟨x, hx⟩ := get_lt hlt
    have hx' : (l.map GSym.av)[((i : Nat) : Int).toNat]? = some x.av := map_get hx
    have hF := ref_FindS s hs x.Name
    rw [drop_cons hx, fitsB, fitsB, List.all_cons, fitA] at he
    rcases findN_spec s x.Name with ⟨e1, e2⟩ | ⟨k, r, e1, e2, e3⟩
    · rw [e1] at hF
      rw [e2] at he
      repeat' (first | refine AW.re 2 4 ?_ | (refine AW.dq 4 ?_ <;> refine AQ.es 3 ?_ <;> (first | ((exfalso; simp only [decide_eq_true_eq, decide_eq_false_iff_not, List.length_map, bne_iff_ne, ne_eq, bne_eq_false_iff_eq, beq_iff_eq, beq_eq_false_iff_ne] at *; omega)) | refine AQ.p rfl (AOp.index_sl rfl rfl (by omega) hx' (by kernel_rfl) rfl) ?_) <;> refine AQ.es 2 ?_ <;> (first | ((exfalso; simp only [decide_eq_true_eq, decide_eq_false_iff_not, List.length_map, bne_iff_ne, ne_eq, bne_eq_false_iff_eq, beq_iff_eq, beq_eq_false_iff_ne] at *; omega)) | refine AQ.p rfl (AOp.call rfl rfl hF) ?_) <;> refine AQ.es 1 ?_ <;> refine AQ.nil ?_) | (refine AW.dq 5 ?_ <;> refine AQ.es 3 ?_ <;> (first | refine AQ.es 3 ?_ | (refine AQ.x (fun hb => ?_) (fun hb => ?_) <;> refine AQ.es 3 ?_)) <;> (first | (exfalso; simp only [decide_eq_true_eq, decide_eq_false_iff_not, List.length_map, bne_iff_ne, ne_eq, bne_eq_false_iff_eq, beq_iff_eq, beq_eq_false_iff_ne] at *; omega) | refine AQ.gp rfl (AOp.index_sl rfl rfl (by omega) hx' (by kernel_rfl) rfl) ?_ | refine AQ.k ?_) <;> refine AQ.es 4 ?_ <;> (first | (exfalso; simp only [decide_eq_true_eq, decide_eq_false_iff_not, List.length_map, bne_iff_ne, ne_eq, bne_eq_false_iff_eq, beq_iff_eq, beq_eq_false_iff_ne] at *; omega) | refine AQ.gp rfl (AOp.index_sl rfl rfl (by omega) hx' (by kernel_rfl) rfl) ?_ | refine AQ.k ?_) <;> refine AQ.es 4 ?_ <;> refine AQ.nil ?_) | refine AW.re 6 1 ?_ | refine AW.jt ?_ | refine AW.jf ?_ | refine AW.jj (fun hb => ?_) (fun hb => ?_) | refine AW.go ?_ | fail)
      all_goals try (exfalso; simp only [decide_eq_true_eq, decide_eq_false_iff_not, List.length_map] at *; omega)
      exact AW.retv rfl ⟨by rw [fitsB, he]; rfl, rfl⟩
    · rw [e1] at hF
      rw [e3] at he
      change l.all (fitA s) = (decide (r.Arity = x.Arity) && (l.drop (i + 1)).all (fitA s)) at he
      have hr' : (s.Rels.map GRel.av)[((k : Nat) : Int).toNat]? = some r.av := map_get e2
      repeat' (first | refine AW.re 2 4 ?_ | (refine AW.dq 4 ?_ <;> refine AQ.es 3 ?_ <;> fail <;> refine AQ.es 2 ?_ <;> fail <;> refine AQ.es 1 ?_ <;> refine AQ.nil ?_) | refine AW.jt ?_ | refine AW.jf ?_ | refine AW.jj (fun hb => ?_) (fun hb => ?_) | refine AW.go ?_ | fail)
      all_goals try (exfalso; simp only [decide_eq_true_eq, decide_eq_false_iff_not, List.length_map] at *; omega)
      repeat' (first | (refine AW.dq 4 ?_ <;> refine AQ.es 3 ?_ <;> (first | ((exfalso; simp only [decide_eq_true_eq, decide_eq_false_iff_not, List.length_map, bne_iff_ne, ne_eq, bne_eq_false_iff_eq, beq_iff_eq, beq_eq_false_iff_ne] at *; omega)) | refine AQ.p rfl (AOp.index_sl rfl rfl (by omega) hx' (by kernel_rfl) rfl) ?_ | refine AQ.p rfl (AOp.index_sl rfl rfl (by omega) hr' (by kernel_rfl) rfl) ?_) <;> refine AQ.es 2 ?_ <;> (first | ((exfalso; simp only [decide_eq_true_eq, decide_eq_false_iff_not, List.length_map, bne_iff_ne, ne_eq, bne_eq_false_iff_eq, beq_iff_eq, beq_eq_false_iff_ne] at *; omega)) | refine AQ.p rfl (AOp.call rfl rfl hF) ?_) <;> refine AQ.es 1 ?_ <;> refine AQ.nil ?_) | (refine AW.dq 5 ?_ <;> refine AQ.es 3 ?_ <;> (first | refine AQ.es 3 ?_ | (refine AQ.x (fun hb => ?_) (fun hb => ?_) <;> refine AQ.es 3 ?_)) <;> (first | (exfalso; simp only [decide_eq_true_eq, decide_eq_false_iff_not, List.length_map, bne_iff_ne, ne_eq, bne_eq_false_iff_eq, beq_iff_eq, beq_eq_false_iff_ne] at *; omega) | refine AQ.gp rfl (AOp.index_sl rfl rfl (by omega) hx' (by kernel_rfl) rfl) ?_ | refine AQ.gp rfl (AOp.index_sl rfl rfl (by omega) hr' (by kernel_rfl) rfl) ?_ | refine AQ.k ?_) <;> refine AQ.es 4 ?_ <;> (first | (exfalso; simp only [decide_eq_true_eq, decide_eq_false_iff_not, List.length_map, bne_iff_ne, ne_eq, bne_eq_false_iff_eq, beq_iff_eq, beq_eq_false_iff_ne] at *; omega) | refine AQ.gp rfl (AOp.index_sl rfl rfl (by omega) hx' (by kernel_rfl) rfl) ?_ | refine AQ.gp rfl (AOp.index_sl rfl rfl (by omega) hr' (by kernel_rfl) rfl) ?_ | refine AQ.k ?_) <;> refine AQ.es 4 ?_ <;> refine AQ.nil ?_) | refine AW.re 6 1 ?_ | (refine AW.r 3 ?_ <;> refine AL.es 1 ?_ <;> refine AL.d AOp.ad ?_ <;> refine AL.es 1 ?_ <;> refine AL.nil ?_) | refine AW.jt ?_ | refine AW.jf ?_ | refine AW.jj (fun hb => ?_) (fun hb => ?_) | refine AW.go ?_ | fail)
      all_goals try (exfalso; simp only [decide_eq_true_eq, decide_eq_false_iff_not, List.length_map] at *; omega)
      all_goals simp only [bne_iff_ne, ne_eq, bne_eq_false_iff_eq] at hb
      · exact AW.retv rfl ⟨by rw [fitsB, he, decide_eq_false hb]; rfl, rfl⟩
      · refine AW.again_keep (l.length - (i + 1)) [1, 2, 5] (by omega) ⟨i + 1, hlt, rfl, rfl, rfl, ?_⟩
        rw [fitsB, he, decide_eq_true hb]; rfl
  · rw [List.drop_eq_nil_of_le (by omega)] at he
    repeat' (first | refine AW.re 2 4 ?_ | refine AW.re 7 1 ?_ | refine AW.jt ?_ | refine AW.jf ?_ | refine AW.jj (fun hb => ?_) (fun hb => ?_) | refine AW.go ?_ | fail)
    all_goals try (exfalso; simp only [decide_eq_true_eq, decide_eq_false_iff_not, List.length_map] at *; omega)
    exact AW.retv rfl ⟨by rw [he]; rfl, rfl⟩
theorem ref_Symbols (c : GCode) (hc : c.Ok) (hb : (checkedP c).bad = false) : Tri Tryz.prog 34 [c.av] [] (D (.sl ((symsP (symsT c)).map GSym.av)) []) := by
  have hcnt := (checked_cons hb).2
  have hbl : c.Body.length ≤ 4611686018427387904 := by have := hc.2.2.2.1; omega
  have hT := ref_tests c hc (cntL c.Body) c.Body (Nat.le_refl _) hbl hc.2.2.2.2 [] none 0 (by simp; omega)
  have hok := symsT_ok hb
  have h7 := ref_Symbols7 (symsT c) hok
  change Tri _ _ _ _ (fun x h => ∃ b' c', x = .ret (.slt ((symsT c).map GSym.av) b' c') ∧ h = [.tail b' ((symsT c).map GSym.av).length c' 2]) at hT
  generalize symsT c = T at *
  obtain ⟨hTl, hTa⟩ := hok
  refine Tri.enter 37 Tryz.func34 rfl rfl rfl rfl fun Fr w0 => ?_
  repeat' (first | (refine AW.r 0 ?_ <;> (first | refine AL.d (AOp.box_ro rfl rfl) ?_ | refine AL.d (AOp.box_ro rfl rfl) ?_) <;> refine AL.es 1 ?_ <;> refine AL.nil ?_) | refine AW.jt ?_ | refine AW.jf ?_ | refine AW.jj (fun hb => ?_) (fun hb => ?_) | refine AW.go ?_ | fail)
  repeat' (first | (refine AW.r 1 ?_ <;> refine AL.alloc_z (.st [.st [.str empS, .sl []], nilS]) (by kernel_rfl) rfl rfl fun b3 => ?_ <;> refine AL.nil ?_) | refine AW.jt ?_ | refine AW.jf ?_ | refine AW.jj (fun hb => ?_) (fun hb => ?_) | refine AW.go ?_ | fail)
  refine AW.recast 0 (c' := .st [.st [.str empS, .sl []], .slt [] none 0]) rfl (fun S w cs h => rel_last h fun cs h => nil_slt _ _ _ h) ?_
  refine AW.own_nil 2 ?_
  repeat' (first | refine AW.jt ?_ | refine AW.jf ?_ | refine AW.jj (fun hb => ?_) (fun hb => ?_) | refine AW.go ?_ | fail)
  refine AW.region_at 2 ?_
  refine AL.d AOp.la ?_
  refine AL.d AOp.fa ?_
  refine AL.d AOp.la ?_
  refine AL.step rfl rfl (AOp.callV (args := [c.av, .sl (c.Body.map GStmt.av), .slt [] none 0]) rfl (fun S w a hfr => ?_) (Tri.frame [true, false] hT)) ?_ (by rintro _ _ ⟨_, ⟨_, _, e, _⟩, _⟩; cases e)
  · have h1 := aeval_rel hfr (x := .tmp 6) rfl
    have h2 := aeval_rel hfr (x := .tmp 8) rfl
    simp only [RelVs]
    exact ⟨_, _, rfl, h1.1, h1.2, _, _, rfl, h2.1, h2.2, _, _, rfl, (rel_nil (S := S) (w := w)).1, (rel_nil (S := S) (w := w)).2, rfl⟩
  rintro _ _ ⟨_, ⟨tb, tc, e, rfl⟩, rfl⟩
  injection e with e
  subst e
  refine AL.e ?_
  refine AL.nil ?_
  refine AW.as_sl 4 rfl ?_
  refine AW.drop (ah' := [.box b3 (.st [.st [.str empS, .sl []], .slt [] none 0])]) (List.sublist_cons_self _ _) ?_
  refine AW.own_nil 4 ?_
  repeat' (first | refine AW.re 3 1 ?_ | refine AW.jt ?_ | refine AW.jf ?_ | refine AW.jj (fun hb => ?_) (fun hb => ?_) | refine AW.go ?_ | fail)
  refine AW.prune [3, 4, 5] (AW.loop (fun mz af h => ∃ (i : Nat) (tb : Option Nat) (tc : Nat), i ≤ T.length ∧ mz = T.length - i ∧ af = [(3, .ref b3 0), (4, .sl (T.map GSym.av)), (5, .int .i64 i)] ∧ h = [.tail tb ((T.take i).map condA).length tc 4, .box b3 (.st [.st [.str empS, .sl []], .slt ((T.take i).map condA) tb tc])] ∧ True) T.length ⟨0, none, 0, Nat.zero_le _, rfl, rfl, rfl, trivial⟩ ?_)
  rintro mz af h ⟨i, tb, tc, hi, rfl, rfl, rfl, he⟩
  refine AW.seq ?_
  by_cases hlt : i < T.length
  · obtain ⟨x, hx⟩ := get_lt hlt
    have hxa := hTa x (List.mem_of_getElem? hx)
    obtain ⟨nm, ar⟩ := x
    obtain ⟨k, hk⟩ := Int.eq_ofNat_of_zero_le hxa.1
    simp only at hk
    subst hk
    simp only at hxa
    have hx' : (T.map GSym.av)[((i : Nat) : Int).toNat]? = some (.st [.str nm, .int .i64 k]) := map_get hx
    have htl : (T.take i).length ≤ 100000 := by rw [List.length_take]; omega
    repeat' (first | refine AW.re 4 4 ?_ | refine AW.jt ?_ | refine AW.jf ?_ | refine AW.jj (fun hb => ?_) (fun hb => ?_) | refine AW.go ?_ | fail)
    all_goals try (exfalso; simp only [decide_eq_true_eq, decide_eq_false_iff_not, List.length_map] at *; omega)
    repeat' (first | (refine AW.ex 6 [true, true] [16, 18] ?_ <;> (first | refine AQE.p rfl AOp.fa ?_ | refine AQE.p rfl (AOp.fr 2) ?_) <;> (first | refine AQE.p rfl AOp.la ?_ | refine AQE.p rfl (AOp.ll 0) ?_ | refine AQE.pe rfl (AOp.ll 0) ?_ | refine AQE.p rfl (AOp.ll 1) ?_ | refine AQE.pe rfl (AOp.ll 1) ?_) <;> refine AQE.e ?_ <;> refine AQE.e ?_ <;> refine AQE.p rfl (AOp.index_sl rfl rfl (by omega) hx' (by kernel_rfl) rfl) ?_ <;> (first | refine AQE.p rfl AOp.fa ?_ | refine AQE.p rfl (AOp.fr 0) ?_) <;> (first | refine AQE.p rfl AOp.la ?_ | refine AQE.p rfl (AOp.ll 0) ?_ | refine AQE.pe rfl (AOp.ll 0) ?_ | refine AQE.p rfl (AOp.ll 1) ?_ | refine AQE.pe rfl (AOp.ll 1) ?_) <;> refine AQE.e ?_ <;> refine AQE.e ?_ <;> refine AQE.p rfl (AOp.index_sl rfl rfl (by omega) hx' (by kernel_rfl) rfl) ?_ <;> (first | refine AQE.p rfl AOp.fa ?_ | refine AQE.p rfl (AOp.fr 1) ?_) <;> (first | refine AQE.p rfl AOp.la ?_ | refine AQE.p rfl (AOp.ll 0) ?_ | refine AQE.pe rfl (AOp.ll 0) ?_ | refine AQE.p rfl (AOp.ll 1) ?_ | refine AQE.pe rfl (AOp.ll 1) ?_) <;> refine AQE.p rfl (AOp.makeSlice_ro (n := k) (e := 9) (c := .string ⟨#[]⟩) (z := .str empS) (bytes := 16) rfl rfl (by kernel_rfl) rfl rfl (by omega) (by omega)) ?_ <;> refine AQE.p rfl (AOp.build (pl := [(0, 1), (1, 1)]) (z := .st [.str ⟨#[]⟩, .sl []]) (by kernel_rfl) rfl rfl rfl) ?_ <;> refine AQE.p rfl (AOp.build (pl := [(0, 1), (1, 1), (2, 2)]) (z := .st [.int .i64 0, .bool false, .st [.str ⟨#[]⟩, .sl []]]) (by kernel_rfl) rfl rfl rfl) ?_ <;> refine AQE.p rfl (AOp.lit (e := 133) (sz := 4) (by kernel_rfl) rfl rfl rfl (P_one rfl) (by decide)) ?_ <;> refine AQE.hl ?_ <;> (first | refine AQE.p rfl AOp.fa ?_ | refine AQE.p rfl (AOp.fr 2) ?_) <;> refine AQE.hl ?_ <;> refine AQE.nil ?_ <;> refine AX.o (n := 1) 16 ?_ <;> refine AXO.append (i := 0) (e := 133) (sz := 4) (bytes := 56) rfl rfl rfl rfl (by kernel_rfl) (by kernel_rfl) (by repeat' (first | exact P_nil | refine P_app ?_ ?_ | refine P_take ?_ | refine P_drop ?_ | exact P_map fun _ => rfl | exact P_one rfl | exact P_rep rfl)) (by repeat' (first | exact P_nil | refine P_app ?_ ?_ | refine P_take ?_ | refine P_drop ?_ | exact P_map fun _ => rfl | exact P_one rfl | exact P_rep rfl)) (ok_all (by repeat' (first | exact P_nil | refine P_app ?_ ?_ | refine P_take ?_ | refine P_drop ?_ | exact P_map fun _ => rfl | exact P_one rfl | exact P_rep rfl))) (by (try simp only [List.length_append, List.length_map, List.length_take, List.length_drop, List.length_cons, List.length_nil, List.length_replicate]); omega) (by (try simp only [List.length_append, List.length_map, List.length_take, List.length_drop, List.length_cons, List.length_nil, List.length_replicate]); omega) rfl fun b' c' => ?_ <;> try dsimp only [List.set_cons_succ, List.set_cons_zero, List.getD_cons_succ, List.getD_cons_zero] <;> refine AX.o (n := 0) 18 ?_ <;> (first | refine AXO.sl 0 fun _ => ?_ | refine AXO.sl 1 fun _ => ?_) <;> try dsimp only [List.set_cons_succ, List.set_cons_zero, List.getD_cons_succ, List.getD_cons_zero] <;> refine AX.done_keep [0, 1, 2, 3, 4, 5, 6, 7, 8, 9, 10, 11, 12, 13, 14, 15, 34, 35, 36] ?_) | (refine AW.r 5 ?_ <;> refine AL.es 1 ?_ <;> refine AL.d AOp.ad ?_ <;> refine AL.es 1 ?_ <;> refine AL.nil ?_) | refine AW.jt ?_ | refine AW.jf ?_ | refine AW.jj (fun hb => ?_) (fun hb => ?_) | refine AW.go ?_ | fail)
    have htk : T.take (i + 1) = T.take i ++ [(⟨nm, (k : Int)⟩ : GSym)] := by rw [List.take_add_one, hx]; rfl
    have hmm : (T.take (i + 1)).map condA = (T.take i).map condA ++ [condA ⟨nm, (k : Int)⟩] := by rw [htk]; simp
    refine AW.again_keep (T.length - (i + 1)) [3, 4, 5] (by omega) ⟨i + 1, b', c', hlt, rfl, rfl, ?_, trivial⟩
    rw [hmm]; rfl
  · have hti : i = T.length := by omega
    subst hti
    rw [List.take_length]
    repeat' (first | refine AW.re 4 4 ?_ | refine AW.jt ?_ | refine AW.jf ?_ | refine AW.jj (fun hb => ?_) (fun hb => ?_) | refine AW.go ?_ | fail)
    all_goals try (exfalso; simp only [decide_eq_true_eq, decide_eq_false_iff_not, List.length_map] at *; omega)
    refine AW.recast 1 (c' := .st [.st [.str empS, .sl []], .sl (T.map condA)]) rfl (fun S w cs h => rel_last h fun cs h => slt_sl _ _ _ h) ?_
    repeat' (first | (refine AW.r 7 ?_ <;> (first | refine AL.d AOp.la ?_ | refine AL.d (AOp.lw 0) ?_ | refine AL.d (AOp.lw 1) ?_) <;> refine AL.d (AOp.lit (e := 131) (sz := 3) (by kernel_rfl) rfl rfl rfl (P_one rfl) (by decide)) ?_ <;> refine AL.d (AOp.call rfl rfl (h7.pure _)) ?_ <;> refine AL.es 1 ?_ <;> refine AL.nil ?_) | refine AW.jt ?_ | refine AW.jf ?_ | refine AW.jj (fun hb => ?_) (fun hb => ?_) | refine AW.go ?_ | fail)
    exact AW.ret_drop rfl (List.nil_sublist _) ⟨rfl, rfl⟩
def checkR (c : GCode) (s : GStr) (fuel : Int) : Int :=
  if (checkedP c).bad = true ∨ validStr s = false then 1 else if fitsB s (symsP (symsT c)) = false then 4 else if fuel < 0 ∨ fuel > 10000000 then 2 else if (c.Arrays.any fun a => decide ((powerR s.Size a.Arity).2 ≠ 0)) = true then 5 else 0
theorem pow_size {n : Int} (hn : 1 ≤ n ∧ n ≤ 64) {k : Int} (hk : 0 ≤ k ∧ k ≤ 12) : decide ((powerR n k).2 ≠ 0) = decide (ppow n k.toNat 1 > 4096) := by
  have hp := ppow_powGo hn.1 k.toNat 1 (by omega) (by omega)
  unfold powerR
  rw [if_neg (by omega)]
  rcases hp with ⟨h1, h2, h3⟩ | ⟨h1, h2⟩
  · rw [if_neg (by omega), decide_eq_decide]
    constructor
    · intro h; exact absurd rfl h
    · intro h; omega
  · rw [if_pos h1, decide_eq_decide]
    exact ⟨fun _ => h2, fun _ => by simp⟩
theorem ref_Check (c : GCode) (s : GStr) (fuel : Int) (hc : c.Ok) (hs : s.Ok) (hcnt : cntL c.Body ≤ 1000000) : Tri Tryz.prog 9 [c.av, s.av, .int .i64 fuel] [] (D (.int .i64 (checkR c s fuel)) []) := by
  have hV := ref_Valid c hc hcnt
  have hS := ref_ValidS s hs
  have hal : c.Arrays.length ≤ 4611686018427387904 := by have := hc.2.2.1.1; omega
  unfold checkR
  cases hb : (checkedP c).bad with
  | true =>
    rw [show refValid c = false by have := checked_iff c; rw [hb] at this; simpa using this.symm] at hV
    rw [if_pos (.inl rfl)]
    refine Tri.enter 47 Tryz.func9 rfl rfl rfl rfl fun Fr w0 => ?_
    repeat' (first | (refine AW.r 0 ?_ <;> (first | refine AL.d (AOp.box_ro rfl rfl) ?_ | refine AL.d (AOp.box_ro rfl rfl) ?_) <;> (first | refine AL.d (AOp.box_ro rfl rfl) ?_ | refine AL.d (AOp.box_ro rfl rfl) ?_) <;> refine AL.es 1 ?_ <;> refine AL.nil ?_) | (refine AW.r 1 ?_ <;> refine AL.es 1 ?_ <;> (first | refine AL.d (AOp.call rfl rfl hV) ?_ | refine AL.d (AOp.call rfl rfl hS) ?_) <;> refine AL.es 2 ?_ <;> (first | refine AL.es 1 ?_ | (refine AL.gx (fun hb => ?_) (fun hb => ?_) <;> refine AL.es 1 ?_)) <;> (first | (refine AL.gd ?_; (first | refine AL.d (AOp.call rfl rfl hV) ?_ | refine AL.d (AOp.call rfl rfl hS) ?_)) | refine AL.gs ?_ | refine AL.gu ?_) <;> refine AL.es 3 ?_ <;> refine AL.nil ?_) | refine AW.re 2 1 ?_ | refine AW.jt ?_ | refine AW.jf ?_ | refine AW.jj (fun hb => ?_) (fun hb => ?_) | refine AW.go ?_ | fail)
    exact AW.retv rfl ⟨rfl, rfl⟩
  | false =>
    rw [show refValid c = true by have := checked_iff c; rw [hb] at this; simpa using this.symm] at hV
    have hY := ref_Symbols c hc hb
    have hF := ref_Fits s hs (symsP (symsT c)) (by have h1 := ordGo_len (atomsP (symsT c)) []; have h2 := (symsT_ok hb).1; simp [symsP, atomsP] at h1 ⊢; omega)
    cases hv : validStr s with
    | false =>
      rw [hv] at hS
      rw [if_pos (.inr rfl)]
      refine Tri.enter 47 Tryz.func9 rfl rfl rfl rfl fun Fr w0 => ?_
      repeat' (first | (refine AW.r 0 ?_ <;> (first | refine AL.d (AOp.box_ro rfl rfl) ?_ | refine AL.d (AOp.box_ro rfl rfl) ?_) <;> (first | refine AL.d (AOp.box_ro rfl rfl) ?_ | refine AL.d (AOp.box_ro rfl rfl) ?_) <;> refine AL.es 1 ?_ <;> refine AL.nil ?_) | (refine AW.r 1 ?_ <;> refine AL.es 1 ?_ <;> (first | refine AL.d (AOp.call rfl rfl hV) ?_ | refine AL.d (AOp.call rfl rfl hS) ?_) <;> refine AL.es 2 ?_ <;> (first | refine AL.es 1 ?_ | (refine AL.gx (fun hb => ?_) (fun hb => ?_) <;> refine AL.es 1 ?_)) <;> (first | (refine AL.gd ?_; (first | refine AL.d (AOp.call rfl rfl hV) ?_ | refine AL.d (AOp.call rfl rfl hS) ?_)) | refine AL.gs ?_ | refine AL.gu ?_) <;> refine AL.es 3 ?_ <;> refine AL.nil ?_) | refine AW.re 2 1 ?_ | refine AW.jt ?_ | refine AW.jf ?_ | refine AW.jj (fun hb => ?_) (fun hb => ?_) | refine AW.go ?_ | fail)
      exact AW.retv rfl ⟨rfl, rfl⟩
    | true =>
      rw [hv] at hS
      rw [if_neg (by simp)]
      have hk := chk_ok hb
      have hn : 1 ≤ s.Size ∧ s.Size ≤ 64 := ⟨(valid_rel hv).1, (valid_rel hv).2.1⟩
      generalize symsP (symsT c) = Y at *
      cases hf : fitsB s Y with
      | false =>
        rw [hf] at hF
        rw [if_pos rfl]
        refine Tri.enter 47 Tryz.func9 rfl rfl rfl rfl fun Fr w0 => ?_
        repeat' (first | (refine AW.r 0 ?_ <;> (first | refine AL.d (AOp.box_ro rfl rfl) ?_ | refine AL.d (AOp.box_ro rfl rfl) ?_) <;> (first | refine AL.d (AOp.box_ro rfl rfl) ?_ | refine AL.d (AOp.box_ro rfl rfl) ?_) <;> refine AL.es 1 ?_ <;> refine AL.nil ?_) | (refine AW.r 1 ?_ <;> refine AL.es 1 ?_ <;> (first | refine AL.d (AOp.call rfl rfl hV) ?_ | refine AL.d (AOp.call rfl rfl hS) ?_ | refine AL.d (AOp.call rfl rfl hY) ?_ | refine AL.d (AOp.call rfl rfl hF) ?_) <;> refine AL.es 2 ?_ <;> (first | refine AL.es 1 ?_ | (refine AL.gx (fun hb => ?_) (fun hb => ?_) <;> refine AL.es 1 ?_)) <;> (first | (refine AL.gd ?_; (first | refine AL.d (AOp.call rfl rfl hV) ?_ | refine AL.d (AOp.call rfl rfl hS) ?_ | refine AL.d (AOp.call rfl rfl hY) ?_ | refine AL.d (AOp.call rfl rfl hF) ?_)) | refine AL.gs ?_ | refine AL.gu ?_) <;> refine AL.es 3 ?_ <;> refine AL.nil ?_) | (refine AW.dq 3 ?_ <;> refine AQ.es 2 ?_ <;> (first | refine AQ.p rfl (AOp.call rfl rfl hV) ?_ | refine AQ.p rfl (AOp.call rfl rfl hS) ?_ | refine AQ.p rfl (AOp.call rfl rfl hY) ?_ | refine AQ.p rfl (AOp.call rfl rfl hF) ?_) <;> (first | refine AQ.p rfl (AOp.call rfl rfl hV) ?_ | refine AQ.p rfl (AOp.call rfl rfl hS) ?_ | refine AQ.p rfl (AOp.call rfl rfl hY) ?_ | refine AQ.p rfl (AOp.call rfl rfl hF) ?_) <;> refine AQ.es 2 ?_ <;> refine AQ.nil ?_) | refine AW.re 4 1 ?_ | refine AW.jt ?_ | refine AW.jf ?_ | refine AW.jj (fun hb => ?_) (fun hb => ?_) | refine AW.go ?_ | fail)
        exact AW.retv rfl ⟨rfl, rfl⟩
      | true =>
        rw [hf] at hF
        rw [if_neg (by simp)]
        by_cases hfu : fuel < 0 ∨ fuel > 10000000
        · rw [if_pos hfu]
          refine Tri.enter 47 Tryz.func9 rfl rfl rfl rfl fun Fr w0 => ?_
          repeat' (first | (refine AW.r 0 ?_ <;> (first | refine AL.d (AOp.box_ro rfl rfl) ?_ | refine AL.d (AOp.box_ro rfl rfl) ?_) <;> (first | refine AL.d (AOp.box_ro rfl rfl) ?_ | refine AL.d (AOp.box_ro rfl rfl) ?_) <;> refine AL.es 1 ?_ <;> refine AL.nil ?_) | (refine AW.r 1 ?_ <;> refine AL.es 1 ?_ <;> (first | refine AL.d (AOp.call rfl rfl hV) ?_ | refine AL.d (AOp.call rfl rfl hS) ?_ | refine AL.d (AOp.call rfl rfl hY) ?_ | refine AL.d (AOp.call rfl rfl hF) ?_) <;> refine AL.es 2 ?_ <;> (first | refine AL.es 1 ?_ | (refine AL.gx (fun hb => ?_) (fun hb => ?_) <;> refine AL.es 1 ?_)) <;> (first | (refine AL.gd ?_; (first | refine AL.d (AOp.call rfl rfl hV) ?_ | refine AL.d (AOp.call rfl rfl hS) ?_ | refine AL.d (AOp.call rfl rfl hY) ?_ | refine AL.d (AOp.call rfl rfl hF) ?_)) | refine AL.gs ?_ | refine AL.gu ?_) <;> refine AL.es 3 ?_ <;> refine AL.nil ?_) | (refine AW.dq 3 ?_ <;> refine AQ.es 2 ?_ <;> (first | refine AQ.p rfl (AOp.call rfl rfl hV) ?_ | refine AQ.p rfl (AOp.call rfl rfl hS) ?_ | refine AQ.p rfl (AOp.call rfl rfl hY) ?_ | refine AQ.p rfl (AOp.call rfl rfl hF) ?_) <;> (first | refine AQ.p rfl (AOp.call rfl rfl hV) ?_ | refine AQ.p rfl (AOp.call rfl rfl hS) ?_ | refine AQ.p rfl (AOp.call rfl rfl hY) ?_ | refine AQ.p rfl (AOp.call rfl rfl hF) ?_) <;> refine AQ.es 2 ?_ <;> refine AQ.nil ?_) | (refine AW.r 5 ?_ <;> refine AL.es 3 ?_ <;> (first | refine AL.es 4 ?_ | (refine AL.gx (fun hb => ?_) (fun hb => ?_) <;> refine AL.es 4 ?_)) <;> refine AL.nil ?_) | refine AW.re 6 1 ?_ | refine AW.jt ?_ | refine AW.jf ?_ | refine AW.jj (fun hb => ?_) (fun hb => ?_) | refine AW.go ?_ | fail)
          all_goals try (exfalso; simp only [decide_eq_true_eq, decide_eq_false_iff_not, List.length_map] at *; omega)
          all_goals exact AW.retv rfl ⟨rfl, rfl⟩
        · rw [if_neg hfu]
          refine Tri.enter 47 Tryz.func9 rfl rfl rfl rfl fun Fr w0 => ?_
          repeat' (first | (refine AW.r 0 ?_ <;> (first | refine AL.d (AOp.box_ro rfl rfl) ?_ | refine AL.d (AOp.box_ro rfl rfl) ?_) <;> (first | refine AL.d (AOp.box_ro rfl rfl) ?_ | refine AL.d (AOp.box_ro rfl rfl) ?_) <;> refine AL.es 1 ?_ <;> refine AL.nil ?_) | (refine AW.r 1 ?_ <;> refine AL.es 1 ?_ <;> (first | refine AL.d (AOp.call rfl rfl hV) ?_ | refine AL.d (AOp.call rfl rfl hS) ?_ | refine AL.d (AOp.call rfl rfl hY) ?_ | refine AL.d (AOp.call rfl rfl hF) ?_) <;> refine AL.es 2 ?_ <;> (first | refine AL.es 1 ?_ | (refine AL.gx (fun hb => ?_) (fun hb => ?_) <;> refine AL.es 1 ?_)) <;> (first | (refine AL.gd ?_; (first | refine AL.d (AOp.call rfl rfl hV) ?_ | refine AL.d (AOp.call rfl rfl hS) ?_ | refine AL.d (AOp.call rfl rfl hY) ?_ | refine AL.d (AOp.call rfl rfl hF) ?_)) | refine AL.gs ?_ | refine AL.gu ?_) <;> refine AL.es 3 ?_ <;> refine AL.nil ?_) | (refine AW.dq 3 ?_ <;> refine AQ.es 2 ?_ <;> (first | refine AQ.p rfl (AOp.call rfl rfl hV) ?_ | refine AQ.p rfl (AOp.call rfl rfl hS) ?_ | refine AQ.p rfl (AOp.call rfl rfl hY) ?_ | refine AQ.p rfl (AOp.call rfl rfl hF) ?_) <;> (first | refine AQ.p rfl (AOp.call rfl rfl hV) ?_ | refine AQ.p rfl (AOp.call rfl rfl hS) ?_ | refine AQ.p rfl (AOp.call rfl rfl hY) ?_ | refine AQ.p rfl (AOp.call rfl rfl hF) ?_) <;> refine AQ.es 2 ?_ <;> refine AQ.nil ?_) | (refine AW.r 5 ?_ <;> refine AL.es 3 ?_ <;> (first | refine AL.es 4 ?_ | (refine AL.gx (fun hb => ?_) (fun hb => ?_) <;> refine AL.es 4 ?_)) <;> refine AL.nil ?_) | refine AW.re 7 1 ?_ | refine AW.jt ?_ | refine AW.jf ?_ | refine AW.jj (fun hb => ?_) (fun hb => ?_) | refine AW.go ?_ | fail)
          all_goals try (exfalso; simp only [decide_eq_true_eq, decide_eq_false_iff_not, List.length_map] at *; omega)
          refine AW.prune [3, 4, 7] (AW.loop (fun mz af h => ∃ (i : Nat), i ≤ c.Arrays.length ∧ mz = c.Arrays.length - i ∧ af = [(3, .at c.av), (4, .at s.av), (7, .int .i64 i)] ∧ h = [] ∧ (c.Arrays.any fun a => decide ((powerR s.Size a.Arity).2 ≠ 0)) = ((c.Arrays.drop i).any fun a => decide ((powerR s.Size a.Arity).2 ≠ 0))) c.Arrays.length ⟨0, Nat.zero_le _, rfl, rfl, rfl, rfl⟩ ?_)
          rintro mz af h ⟨i, hi, rfl, rfl, rfl, he⟩
          refine AW.seq ?_
          by_cases hlt : i < c.Arrays.length
          · obtain ⟨x, hx⟩ := get_lt hlt
            have hx' : (c.Arrays.map GSym.av)[((i : Nat) : Int).toNat]? = some x.av := map_get hx
            have hxa := hk.ar x (List.mem_of_getElem? hx)
            have hP := ref_Pow s.Size x.Arity hn hxa
            rw [drop_cons hx, List.any_cons, pow_size hn hxa] at he
            repeat' (first | refine AW.re 8 5 ?_ | (refine AW.dq 10 ?_ <;> refine AQ.es 5 ?_ <;> refine AQ.p rfl (AOp.index_sl rfl rfl (by omega) hx' (by kernel_rfl) rfl) ?_ <;> refine AQ.es 2 ?_ <;> refine AQ.p rfl (AOp.call rfl rfl hP) ?_ <;> refine AQ.es 1 ?_ <;> refine AQ.nil ?_) | refine AW.re 11 1 ?_ | (refine AW.r 9 ?_ <;> refine AL.es 1 ?_ <;> refine AL.d AOp.ad ?_ <;> refine AL.es 1 ?_ <;> refine AL.nil ?_) | refine AW.jt ?_ | refine AW.jf ?_ | refine AW.jj (fun hb => ?_) (fun hb => ?_) | refine AW.go ?_ | fail)
            all_goals try (exfalso; simp only [decide_eq_true_eq, decide_eq_false_iff_not, List.length_map] at *; omega)
            · exact AW.retv rfl ⟨by rw [he, hb]; rfl, rfl⟩
            · refine AW.again_keep (c.Arrays.length - (i + 1)) [3, 4, 7] (by omega) ⟨i + 1, hlt, rfl, rfl, rfl, ?_⟩
              rw [he, hb]; rfl
          · rw [List.drop_eq_nil_of_le (by omega)] at he
            repeat' (first | refine AW.re 8 5 ?_ | refine AW.re 12 1 ?_ | refine AW.jt ?_ | refine AW.jf ?_ | refine AW.jj (fun hb => ?_) (fun hb => ?_) | refine AW.go ?_ | fail)
            all_goals try (exfalso; simp only [decide_eq_true_eq, decide_eq_false_iff_not, List.length_map] at *; omega)
            exact AW.retv rfl ⟨by rw [he]; rfl, rfl⟩
theorem check_run {c : GCode} {s : GStr} {G : List Bool} {fuel : Int} {b : Bool} {n g e : Int} (h : RunR c s G fuel b n g e) : (checkR c s fuel ≠ 0 → b = false ∧ n = 0 ∧ g = 0 ∧ e = checkR c s fuel) ∧ (checkR c s fuel = 0 → RunOk c s fuel) := by
  unfold checkR
  have key : (checkedP c).bad = false → validStr s = true → (fitsB s (symsP (symsT c)) = true ↔ ∀ p ∈ (checkedP c).S, 0 ≤ findI s p.1 p.2) := fits_iff
  cases h with
  | form h =>
    rw [if_pos h]
    exact ⟨fun _ => ⟨rfl, rfl, rfl, rfl⟩, fun h => by cases h⟩
  | name h1 h2 p hp h =>
    have hf : fitsB s (symsP (symsT c)) = false := by
      rw [Bool.eq_false_iff]; intro hf
      have := (key h1 h2).1 hf p hp; omega
    rw [if_neg (by rw [h1, h2]; simp), if_pos hf]
    exact ⟨fun _ => ⟨rfl, rfl, rfl, rfl⟩, fun h => by cases h⟩
  | arg h1 h2 h3 h =>
    have hf := (key h1 h2).2 h3
    rw [if_neg (by rw [h1, h2]; simp), if_neg (by rw [hf]; simp), if_pos h]
    exact ⟨fun _ => ⟨rfl, rfl, rfl, rfl⟩, fun h => by cases h⟩
  | size h1 h2 h3 h4 a ha h =>
    have hf := (key h1 h2).2 h3
    rw [if_neg (by rw [h1, h2]; simp), if_neg (by rw [hf]; simp), if_neg (by omega), if_pos (List.any_eq_true.2 ⟨a, ha, by simpa using h⟩)]
    exact ⟨fun _ => ⟨rfl, rfl, rfl, rfl⟩, fun h => by cases h⟩
  | ok h hx =>
    have hf := (key h.bad h.valid).2 h.found
    have hfu := h.fuel
    rw [if_neg (by rw [h.bad, h.valid]; simp), if_neg (by rw [hf]; simp), if_neg (by omega), if_neg (by rw [Bool.not_eq_true, List.any_eq_false]; intro a ha; simpa using h.size a ha)]
    exact ⟨fun h => absurd rfl h, fun _ => h⟩
  | stop h hx =>
    have hf := (key h.bad h.valid).2 h.found
    have hfu := h.fuel
    rw [if_neg (by rw [h.bad, h.valid]; simp), if_neg (by rw [hf]; simp), if_neg (by omega), if_neg (by rw [Bool.not_eq_true, List.any_eq_false]; intro a ha; simpa using h.size a ha)]
    exact ⟨fun h => absurd rfl h, fun _ => h⟩
end Go.Proofs.YtdedkpfbfklgbaaGreat
namespace Go.Proofs.YtdedkpfbfklgbaaGreat
open Go.RowKit Go.SX
set_option maxRecDepth 100000
set_option maxHeartbeats 4000000
set_option linter.unusedVariables false
set_option linter.unusedSimpArgs false
structure RG where
  c : GCode
  n : Int
  G : List Bool
  fuel : Int
  mb : Nat
  fb : Nat
  rb : Nat
  A : Option Nat
  cap : Nat
  RL : List (ByteArray × Int × List Bool)
  ρ : ByteArray → List Bool
abbrev RK := ByteArray → Nat × Nat
def RG.E (X : RG) : Env := ⟨X.n, X.G, X.fuel⟩
def relT (p : ByteArray × Int × List Bool) : AV := .st [.str p.1, .int .i64 p.2.1, bools p.2.2]
def tabA (m : MS) (bk : RK) (a : GSym) : List AV := [.str a.Name, .int .i64 a.Arity, .osl (bk a.Name).1 (m.rels a.Name).length (bk a.Name).2]
def MS.rbox (X : RG) (m : MS) (err : Int) : AV := .st [X.c.av, .int .i64 X.n, .osl X.fb m.flags.length m.flags.length, .osl X.rb m.regs.length m.regs.length, .val (.slice (X.A.map fun b => ⟨b, 0, none⟩) X.c.Arrays.length X.cap), .sl (X.RL.map relT), bools X.G, .int .i64 m.used, .int .i64 m.steps, .int .i64 X.fuel, .int .i64 err]
def hasRow (m : MS) (bk : RK) (a : GSym) : Own := .row (bk a.Name).1 ((m.rels a.Name).map bav)
def arrRow (X : RG) (m : MS) (bk : RK) : AH := match X.A with | some b => [.row b (X.c.Arrays.flatMap (tabA m bk))] | none => []
def MS.rah (X : RG) (m : MS) (bk : RK) (err : Int) : AH := .box X.mb (m.rbox X err) :: .row X.fb (m.flags.map bav) :: .row X.rb (m.regs.map iav) :: (X.c.Arrays.map (hasRow m bk) ++ arrRow X m bk)
structure RSt (X : RG) (F R : Nat) (sig : ByteArray → Option Nat) : Prop where
  nd : (X.c.Arrays.map (·.Name)).Nodup
  al : X.c.Arrays.length ≤ 60
  A : X.c.Arrays ≠ [] → ∃ b, X.A = some b
  sg : ∀ k n, arOf X.c.Arrays k = some n → sig k = some n.toNat
  rel : ∀ k a, arOf X.c.Arrays k = none → sig k = some a → ∃ (j : Nat) (p : Int), X.RL[j]? = some (k, p, X.ρ k) ∧ ∀ (i : Nat) q, i < j → X.RL[i]? = some q → q.1 ≠ k
  rl : X.RL.length ≤ 100
structure RFit (X : RG) (F R : Nat) (sig : ByteArray → Option Nat) (B : Blk) (m : MS) (bk : RK) : Prop where
  mf : MFit F R sig X.E B m
  ro : ∀ k, arOf X.c.Arrays k = none → m.rels k = X.ρ k
  cap : ∀ k n, arOf X.c.Arrays k = some n → (m.rels k).length ≤ (bk k).2
variable {X : RG} {F R : Nat} {sig : ByteArray → Option Nat} {B : Blk} {m : MS} {bk : RK}
theorem has_at (X : RG) (m : MS) (bk : RK) (err : Int) {j : Nat} {a : GSym} (h : X.c.Arrays[j]? = some a) : (m.rah X bk err)[j + 3]? = some (.row (bk a.Name).1 ((m.rels a.Name).map bav)) := by
  show (X.c.Arrays.map (hasRow m bk) ++ arrRow X m bk)[j]? = _
  have hl := (List.getElem?_eq_some_iff.1 h).1
  rw [List.getElem?_append_left (by simpa using hl), List.getElem?_map, h]
  rfl
theorem tab_at (X : RG) (m : MS) (bk : RK) (err : Int) {b : Nat} (h : X.A = some b) : (m.rah X bk err)[X.c.Arrays.length + 3]? = some (.row b (X.c.Arrays.flatMap (tabA m bk))) := by
  show (X.c.Arrays.map (hasRow m bk) ++ arrRow X m bk)[X.c.Arrays.length]? = _
  rw [List.getElem?_append_right (by simp)]
  simp [arrRow, h]
theorem tab_cell (m : MS) (bk : RK) : ∀ {l : List GSym} {j : Nat} {a : GSym}, l[j]? = some a → (l.flatMap (tabA m bk))[j * 3 + 2]? = some (.osl (bk a.Name).1 (m.rels a.Name).length (bk a.Name).2)
  | [], j, a, h => by simp at h
  | x :: l, 0, a, h => by
    obtain rfl : x = a := by simpa using h
    rw [List.flatMap_cons]; rfl
  | x :: l, j + 1, a, h => by
    rw [List.flatMap_cons, List.getElem?_append_right (by simp [tabA]; omega), show (j + 1) * 3 + 2 - (tabA m bk x).length = j * 3 + 2 by simp [tabA]; omega]
    exact tab_cell m bk (by simpa using h)
theorem ref_step_ok (hm : RFit X F R sig B m bk) (h : m.steps < X.fuel) : Tri Tryz.prog 93 [.ref X.mb 0] (m.rah X bk 0) (D (.bool true) (m.step.rah X bk 0)) := by
  have hs := hm.mf.steps
  have hf := hm.mf.fuel
  simp only [RG.E] at hs hf
  refine Tri.enter 34 Tryz.func93 rfl rfl rfl rfl fun Fr w0 => ?_
  repeat' (first | refine AW.re 0 1 ?_ | (refine AW.dq 1 ?_ <;> refine AQ.es 2 ?_ <;> (first | refine AQ.p rfl AOp.fa ?_ | refine AQ.p rfl (AOp.fr 13) ?_) <;> (first | refine AQ.p rfl AOp.la ?_ | refine AQ.p rfl (AOp.ll 0) ?_) <;> refine AQ.es 2 ?_ <;> (first | refine AQ.es 2 ?_ | (refine AQ.x (fun hb => ?_) (fun hb => ?_) <;> refine AQ.es 2 ?_)) <;> (first | refine AQ.gp rfl AOp.fa ?_ | refine AQ.gp rfl (AOp.fr 11) ?_ | refine AQ.k ?_) <;> (first | refine AQ.gp rfl AOp.la ?_ | refine AQ.gp rfl (AOp.ll 0) ?_ | refine AQ.k ?_) <;> refine AQ.es 2 ?_ <;> (first | refine AQ.gp rfl AOp.fa ?_ | refine AQ.gp rfl (AOp.fr 12) ?_ | refine AQ.k ?_) <;> (first | refine AQ.gp rfl AOp.la ?_ | refine AQ.gp rfl (AOp.ll 0) ?_ | refine AQ.k ?_) <;> refine AQ.es 2 ?_ <;> refine AQ.nil ?_) | (refine AW.r 3 ?_ <;> refine AL.es 2 ?_ <;> (first | refine AL.d AOp.fa ?_ | refine AL.d (AOp.fr 13) ?_) <;> (first | refine AL.d AOp.la ?_ | refine AL.d (AOp.ll 0) ?_) <;> refine AL.es 1 ?_ <;> refine AL.nil ?_) | (refine AW.r 5 ?_ <;> refine AL.es 2 ?_ <;> (first | refine AL.d AOp.fa ?_ | refine AL.d (AOp.fr 11) ?_) <;> (first | refine AL.d AOp.la ?_ | refine AL.d (AOp.ll 0) ?_) <;> refine AL.d AOp.ad ?_ <;> refine AL.es 1 ?_ <;> (first | refine AL.d AOp.fa ?_ | refine AL.d (AOp.fr 11) ?_) <;> refine AL.sl 0 ?_ <;> refine AL.nil ?_) | refine AW.re 6 1 ?_ | refine AW.jt ?_ | refine AW.jf ?_ | refine AW.jj (fun hb => ?_) (fun hb => ?_) | refine AW.go ?_ | fail)
  all_goals try (exfalso; simp only [decide_eq_true_eq, decide_eq_false_iff_not] at *; omega)
  exact AW.retv rfl ⟨rfl, rfl⟩
theorem ref_step_bad (hm : RFit X F R sig B m bk) (h : ¬ m.steps < X.fuel) : Tri Tryz.prog 93 [.ref X.mb 0] (m.rah X bk 0) (D (.bool false) (m.rah X bk 7)) := by
  refine Tri.enter 34 Tryz.func93 rfl rfl rfl rfl fun Fr w0 => ?_
  repeat' (first | refine AW.re 0 1 ?_ | (refine AW.dq 1 ?_ <;> refine AQ.es 2 ?_ <;> (first | refine AQ.p rfl AOp.fa ?_ | refine AQ.p rfl (AOp.fr 13) ?_) <;> (first | refine AQ.p rfl AOp.la ?_ | refine AQ.p rfl (AOp.ll 0) ?_) <;> refine AQ.es 2 ?_ <;> (first | refine AQ.es 2 ?_ | (refine AQ.x (fun hb => ?_) (fun hb => ?_) <;> refine AQ.es 2 ?_)) <;> (first | refine AQ.gp rfl AOp.fa ?_ | refine AQ.gp rfl (AOp.fr 11) ?_ | refine AQ.k ?_) <;> (first | refine AQ.gp rfl AOp.la ?_ | refine AQ.gp rfl (AOp.ll 0) ?_ | refine AQ.k ?_) <;> refine AQ.es 2 ?_ <;> (first | refine AQ.gp rfl AOp.fa ?_ | refine AQ.gp rfl (AOp.fr 12) ?_ | refine AQ.k ?_) <;> (first | refine AQ.gp rfl AOp.la ?_ | refine AQ.gp rfl (AOp.ll 0) ?_ | refine AQ.k ?_) <;> refine AQ.es 2 ?_ <;> refine AQ.nil ?_) | (refine AW.r 2 ?_ <;> refine AL.es 2 ?_ <;> (first | refine AL.d AOp.fa ?_ | refine AL.d (AOp.fr 13) ?_) <;> refine AL.sl 0 ?_ <;> refine AL.nil ?_) | (refine AW.r 3 ?_ <;> refine AL.es 2 ?_ <;> (first | refine AL.d AOp.fa ?_ | refine AL.d (AOp.fr 13) ?_) <;> (first | refine AL.d AOp.la ?_ | refine AL.d (AOp.ll 0) ?_) <;> refine AL.es 1 ?_ <;> refine AL.nil ?_) | refine AW.re 4 1 ?_ | refine AW.jt ?_ | refine AW.jf ?_ | refine AW.jj (fun hb => ?_) (fun hb => ?_) | refine AW.go ?_ | fail)
  all_goals try (exfalso; simp only [decide_eq_true_eq, decide_eq_false_iff_not] at *; omega)
  exact AW.retv rfl ⟨rfl, rfl⟩
theorem ref_step_err (e : Int) (he : e ≠ 0) : Tri Tryz.prog 93 [.ref X.mb 0] (m.rah X bk e) (D (.bool false) (m.rah X bk e)) := by
  refine Tri.enter 34 Tryz.func93 rfl rfl rfl rfl fun Fr w0 => ?_
  repeat' (first | refine AW.re 0 1 ?_ | (refine AW.dq 1 ?_ <;> refine AQ.es 2 ?_ <;> (first | refine AQ.p rfl AOp.fa ?_ | refine AQ.p rfl (AOp.fr 13) ?_) <;> (first | refine AQ.p rfl AOp.la ?_ | refine AQ.p rfl (AOp.ll 0) ?_) <;> refine AQ.es 2 ?_ <;> (first | refine AQ.es 2 ?_ | (refine AQ.x (fun hb => ?_) (fun hb => ?_) <;> refine AQ.es 2 ?_)) <;> (first | refine AQ.gp rfl AOp.fa ?_ | refine AQ.gp rfl (AOp.fr 11) ?_ | refine AQ.k ?_) <;> (first | refine AQ.gp rfl AOp.la ?_ | refine AQ.gp rfl (AOp.ll 0) ?_ | refine AQ.k ?_) <;> refine AQ.es 2 ?_ <;> (first | refine AQ.gp rfl AOp.fa ?_ | refine AQ.gp rfl (AOp.fr 12) ?_ | refine AQ.k ?_) <;> (first | refine AQ.gp rfl AOp.la ?_ | refine AQ.gp rfl (AOp.ll 0) ?_ | refine AQ.k ?_) <;> refine AQ.es 2 ?_ <;> refine AQ.nil ?_) | (refine AW.r 2 ?_ <;> refine AL.es 2 ?_ <;> (first | refine AL.d AOp.fa ?_ | refine AL.d (AOp.fr 13) ?_) <;> refine AL.sl 0 ?_ <;> refine AL.nil ?_) | (refine AW.r 3 ?_ <;> refine AL.es 2 ?_ <;> (first | refine AL.d AOp.fa ?_ | refine AL.d (AOp.fr 13) ?_) <;> (first | refine AL.d AOp.la ?_ | refine AL.d (AOp.ll 0) ?_) <;> refine AL.es 1 ?_ <;> refine AL.nil ?_) | refine AW.re 4 1 ?_ | refine AW.jt ?_ | refine AW.jf ?_ | refine AW.jj (fun hb => ?_) (fun hb => ?_) | refine AW.go ?_ | fail)
  all_goals try (exfalso; simp only [beq_iff_eq, bne_eq_false_iff_eq] at *; omega)
  exact AW.retv rfl ⟨rfl, rfl⟩
theorem ref_rank (hm : RFit X F R sig B m bk) (err : Int) (l : List Int) (hl : ∀ x ∈ l, 0 ≤ x ∧ x < R) (hp : X.n ^ l.length ≤ 4096) (hll : l.length ≤ 4611686018427387904) :
    Tri Tryz.prog 136 [.ref X.mb 0, ints l] (m.rah X bk err) (D (.int .i64 (rankM X.n m.regs l 0)) (m.rah X bk err)) := by
  have hn := hm.mf.n
  have hrl := hm.mf.rlen
  have hrb := hm.mf.regs
  simp only [RG.E] at hn hrb
  refine Tri.enter 31 Tryz.func136 rfl rfl rfl rfl fun Fr w0 => ?_
  repeat' (first | refine AW.re 0 1 ?_ | refine AW.re 1 1 ?_ | refine AW.re 2 1 ?_ | refine AW.jt ?_ | refine AW.jf ?_ | refine AW.jj (fun hb => ?_) (fun hb => ?_) | refine AW.go ?_ | fail)
  refine AW.prune [0, 1, 5, 6] (AW.loop (fun mz af h => ∃ (i : Nat) (r : Int), i ≤ l.length ∧ mz = l.length - i ∧ af = [(0, .ref X.mb 0), (1, ints l), (5, .int .i64 r), (6, .int .i64 i)] ∧ h = m.rah X bk err ∧ (0 ≤ r ∧ r < X.n ^ i ∧ rankM X.n m.regs l 0 = rankM X.n m.regs (l.drop i) r)) l.length ⟨0, 0, Nat.zero_le _, rfl, rfl, rfl, ⟨by omega, by simp, rfl⟩⟩ ?_)
  rintro mz af h ⟨i, r, hi, rfl, rfl, rfl, he⟩
  refine AW.seq ?_
  by_cases hlt : i < l.length
  all_goals obtain ⟨r0, r1, he⟩ := he
  · obtain ⟨x, hx⟩ := get_lt hlt
    have hx' : (l.map iav)[((i : Nat) : Int).toNat]? = some (iav x) := map_get hx
    have hxr := hl x (List.mem_of_getElem? hx)
    have hrg := reg_get (regs := m.regs) (x := x) (by omega)
    have hbd := reg_bd (n := X.n) (regs := m.regs) (x := x) (by omega) hrb
    rw [drop_cons hx, rankM] at he
    have h3 : r * X.n + X.n ≤ X.n ^ (i + 1) := by
      rw [Int.pow_succ]
      have := Int.mul_le_mul_of_nonneg_right (show r + 1 ≤ X.n ^ i by omega) (show 0 ≤ X.n by omega)
      rw [Int.add_mul] at this; omega
    have hle := pow_le_of hn.1 (show i + 1 ≤ l.length by omega)
    have hnn : 0 ≤ r * X.n := Int.mul_nonneg r0 (by omega)
    repeat' (first | refine AW.re 3 4 ?_ | (refine AW.dq 5 ?_ <;> refine AQ.es 3 ?_ <;> (first | refine AQ.p rfl AOp.fa ?_ | refine AQ.p rfl (AOp.fr 4) ?_) <;> (first | refine AQ.p rfl (AOp.load_cell 2 rfl rfl hrg rfl (by kernel_rfl)) ?_ | refine AQ.p rfl AOp.la ?_ | refine AQ.p rfl (AOp.ll 0) ?_) <;> refine AQ.p rfl (AOp.mul rfl rfl (by omega)) ?_ <;> refine AQ.es 2 ?_ <;> (first | refine AQ.p rfl AOp.fa ?_ | refine AQ.p rfl (AOp.fr 6) ?_) <;> (first | refine AQ.p rfl (AOp.load_cell 2 rfl rfl hrg rfl (by kernel_rfl)) ?_ | refine AQ.p rfl AOp.la ?_ | refine AQ.p rfl (AOp.ll 0) ?_) <;> refine AQ.es 2 ?_ <;> (first | refine AQ.p rfl (AOp.index_sl rfl rfl (by omega) hx' (by kernel_rfl) rfl) ?_ | refine AQ.p rfl (AOp.index_osl rfl rfl (by omega) (by omega) (by kernel_rfl)) ?_) <;> (first | refine AQ.p rfl (AOp.load_cell 2 rfl rfl hrg rfl (by kernel_rfl)) ?_ | refine AQ.p rfl AOp.la ?_ | refine AQ.p rfl (AOp.ll 0) ?_) <;> (first | refine AQ.p rfl (AOp.index_sl rfl rfl (by omega) hx' (by kernel_rfl) rfl) ?_ | refine AQ.p rfl (AOp.index_osl rfl rfl (by omega) (by omega) (by kernel_rfl)) ?_) <;> (first | refine AQ.p rfl (AOp.load_cell 2 rfl rfl hrg rfl (by kernel_rfl)) ?_ | refine AQ.p rfl AOp.la ?_ | refine AQ.p rfl (AOp.ll 0) ?_) <;> (first | refine AQ.p rfl (AOp.mul rfl rfl (by omega)) ?_ | refine AQ.p rfl AOp.ad ?_) <;> refine AQ.es 1 ?_ <;> refine AQ.nil ?_) | (refine AW.r 4 ?_ <;> refine AL.es 1 ?_ <;> (first | refine AL.d (AOp.mul rfl rfl (by omega)) ?_ | refine AL.d AOp.ad ?_) <;> refine AL.es 1 ?_ <;> refine AL.nil ?_) | refine AW.jt ?_ | refine AW.jf ?_ | refine AW.jj (fun hb => ?_) (fun hb => ?_) | refine AW.go ?_ | fail)
    all_goals try (exfalso; simp only [decide_eq_true_eq, decide_eq_false_iff_not, List.length_map] at *; omega)
    exact AW.again_keep (l.length - (i + 1)) [0, 1, 5, 6] (by omega) ⟨i + 1, _, hlt, rfl, rfl, rfl, by omega, by omega, he⟩
  · rw [List.drop_eq_nil_of_le (by omega), rankM] at he
    repeat' (first | refine AW.re 3 4 ?_ | refine AW.re 6 2 ?_ | refine AW.jt ?_ | refine AW.jf ?_ | refine AW.jj (fun hb => ?_) (fun hb => ?_) | refine AW.go ?_ | fail)
    all_goals try (exfalso; simp only [decide_eq_true_eq, decide_eq_false_iff_not, List.length_map] at *; omega)
    exact AW.retv rfl ⟨by rw [he], rfl⟩
theorem arr_find (hX : RSt X F R sig) {k : ByteArray} {n : Int} (h : arOf X.c.Arrays k = some n) : ∃ (j : Nat) (a : GSym) (b : Nat), findJ k X.c.Arrays 0 = (j : Int) ∧ X.c.Arrays[j]? = some a ∧ a.Name = k ∧ X.A = some b ∧ j < X.c.Arrays.length := by
  rcases findJ_spec k X.c.Arrays 0 with ⟨-, e⟩ | ⟨j, a, e1, e2, e3, -⟩
  · rw [e] at h; cases h
  · have hl := (List.getElem?_eq_some_iff.1 e2).1
    obtain ⟨b, hb⟩ := hX.A (by intro e; rw [e] at hl; simp at hl)
    exact ⟨j, a, b, by rw [e1, Nat.zero_add], e2, e3, hb, hl⟩
theorem ref_holds (hX : RSt X F R sig) (hm : RFit X F R sig B m bk) (l : GLit) (hl : l.At.length ≤ 4611686018427387904) (hr : ∀ x ∈ l.At, 0 ≤ x ∧ x < R) (hs : if l.Kind = 1 ∨ l.Kind = 2 then l.At.length = 2 else l.Kind = 0 ∧ sig l.Name = some l.At.length) :
    Tri Tryz.prog 125 [.ref X.mb 0, l.av] (m.rah X bk 0) (D (.bool (holdsM X.n m l)) (m.rah X bk 0)) := by
  have hrl := hm.mf.rlen
  have hal := hX.al
  by_cases hk : l.Kind = 1 ∨ l.Kind = 2
  · rw [if_pos hk] at hs
    obtain ⟨kd, neg, nm, at_⟩ := l
    obtain ⟨x, y, hxy⟩ : ∃ x y, at_ = [x, y] := by
      match h : at_, hs with
      | [x, y], _ => exact ⟨x, y, rfl⟩
    simp only at hk hr
    subst hxy
    have hx := hr x (by simp)
    have hy := hr y (by simp)
    have g0 := reg_get (regs := m.regs) (x := x) (by omega)
    have g1 := reg_get (regs := m.regs) (x := y) (by omega)
    have e0 : ([x, y].map iav)[(0 : Int).toNat]? = some (iav x) := rfl
    have e1 : ([x, y].map iav)[(1 : Int).toNat]? = some (iav y) := rfl
    rcases hk with rfl | rfl
    · refine Tri.enter 127 Tryz.func125 rfl rfl rfl rfl fun Fr w0 => ?_
      repeat' (first | (refine AW.r 0 ?_ <;> (first | refine AL.d (AOp.box_ro (v := .st [.int .i64 1, .bool neg, .str nm, ints [x, y]]) rfl rfl) ?_ | refine AL.d (AOp.box_ro rfl rfl) ?_) <;> refine AL.es 1 ?_ <;> refine AL.nil ?_) | (refine AW.r 1 ?_ <;> (first | refine AL.d AOp.fa ?_ | refine AL.d (AOp.fr 0) ?_) <;> (first | refine AL.d (AOp.load_cell 2 rfl rfl g0 rfl (by kernel_rfl)) ?_ | refine AL.d (AOp.load_cell 2 rfl rfl g1 rfl (by kernel_rfl)) ?_ | refine AL.d AOp.la ?_ | refine AL.d (AOp.ll 0) ?_) <;> refine AL.nil ?_) | refine AW.re 2 2 ?_ | (refine AW.dq 3 ?_ <;> refine AQ.es 2 ?_ <;> (first | refine AQ.p rfl AOp.fa ?_ | refine AQ.p rfl (AOp.fr 6) ?_) <;> (first | refine AQ.p rfl (AOp.load_cell 2 rfl rfl g0 rfl (by kernel_rfl)) ?_ | refine AQ.p rfl (AOp.load_cell 2 rfl rfl g1 rfl (by kernel_rfl)) ?_ | refine AQ.p rfl AOp.la ?_ | refine AQ.p rfl (AOp.ll 0) ?_) <;> (first | refine AQ.p rfl AOp.fa ?_ | refine AQ.p rfl (AOp.fr 3) ?_) <;> (first | refine AQ.p rfl (AOp.load_cell 2 rfl rfl g0 rfl (by kernel_rfl)) ?_ | refine AQ.p rfl (AOp.load_cell 2 rfl rfl g1 rfl (by kernel_rfl)) ?_ | refine AQ.p rfl AOp.la ?_ | refine AQ.p rfl (AOp.ll 0) ?_) <;> (first | refine AQ.p rfl (AOp.index_sl rfl rfl (by omega) e0 (by kernel_rfl) rfl) ?_ | refine AQ.p rfl (AOp.index_sl rfl rfl (by omega) e1 (by kernel_rfl) rfl) ?_ | refine AQ.p rfl (AOp.index_osl rfl rfl (by omega) (by omega) (by kernel_rfl)) ?_) <;> (first | refine AQ.p rfl (AOp.load_cell 2 rfl rfl g0 rfl (by kernel_rfl)) ?_ | refine AQ.p rfl (AOp.load_cell 2 rfl rfl g1 rfl (by kernel_rfl)) ?_ | refine AQ.p rfl AOp.la ?_ | refine AQ.p rfl (AOp.ll 0) ?_) <;> (first | refine AQ.p rfl (AOp.index_sl rfl rfl (by omega) e0 (by kernel_rfl) rfl) ?_ | refine AQ.p rfl (AOp.index_sl rfl rfl (by omega) e1 (by kernel_rfl) rfl) ?_ | refine AQ.p rfl (AOp.index_osl rfl rfl (by omega) (by omega) (by kernel_rfl)) ?_) <;> (first | refine AQ.p rfl (AOp.load_cell 2 rfl rfl g0 rfl (by kernel_rfl)) ?_ | refine AQ.p rfl (AOp.load_cell 2 rfl rfl g1 rfl (by kernel_rfl)) ?_ | refine AQ.p rfl AOp.la ?_ | refine AQ.p rfl (AOp.ll 0) ?_) <;> refine AQ.es 2 ?_ <;> (first | refine AQ.p rfl AOp.fa ?_ | refine AQ.p rfl (AOp.fr 6) ?_) <;> (first | refine AQ.p rfl (AOp.load_cell 2 rfl rfl g0 rfl (by kernel_rfl)) ?_ | refine AQ.p rfl (AOp.load_cell 2 rfl rfl g1 rfl (by kernel_rfl)) ?_ | refine AQ.p rfl AOp.la ?_ | refine AQ.p rfl (AOp.ll 0) ?_) <;> (first | refine AQ.p rfl AOp.fa ?_ | refine AQ.p rfl (AOp.fr 3) ?_) <;> (first | refine AQ.p rfl (AOp.load_cell 2 rfl rfl g0 rfl (by kernel_rfl)) ?_ | refine AQ.p rfl (AOp.load_cell 2 rfl rfl g1 rfl (by kernel_rfl)) ?_ | refine AQ.p rfl AOp.la ?_ | refine AQ.p rfl (AOp.ll 0) ?_) <;> (first | refine AQ.p rfl (AOp.index_sl rfl rfl (by omega) e0 (by kernel_rfl) rfl) ?_ | refine AQ.p rfl (AOp.index_sl rfl rfl (by omega) e1 (by kernel_rfl) rfl) ?_ | refine AQ.p rfl (AOp.index_osl rfl rfl (by omega) (by omega) (by kernel_rfl)) ?_) <;> (first | refine AQ.p rfl (AOp.load_cell 2 rfl rfl g0 rfl (by kernel_rfl)) ?_ | refine AQ.p rfl (AOp.load_cell 2 rfl rfl g1 rfl (by kernel_rfl)) ?_ | refine AQ.p rfl AOp.la ?_ | refine AQ.p rfl (AOp.ll 0) ?_) <;> (first | refine AQ.p rfl (AOp.index_sl rfl rfl (by omega) e0 (by kernel_rfl) rfl) ?_ | refine AQ.p rfl (AOp.index_sl rfl rfl (by omega) e1 (by kernel_rfl) rfl) ?_ | refine AQ.p rfl (AOp.index_osl rfl rfl (by omega) (by omega) (by kernel_rfl)) ?_) <;> (first | refine AQ.p rfl (AOp.load_cell 2 rfl rfl g0 rfl (by kernel_rfl)) ?_ | refine AQ.p rfl (AOp.load_cell 2 rfl rfl g1 rfl (by kernel_rfl)) ?_ | refine AQ.p rfl AOp.la ?_ | refine AQ.p rfl (AOp.ll 0) ?_) <;> refine AQ.es 1 ?_ <;> (first | refine AQ.p rfl AOp.fa ?_ | refine AQ.p rfl (AOp.fr 1) ?_) <;> (first | refine AQ.p rfl (AOp.load_cell 2 rfl rfl g0 rfl (by kernel_rfl)) ?_ | refine AQ.p rfl (AOp.load_cell 2 rfl rfl g1 rfl (by kernel_rfl)) ?_ | refine AQ.p rfl AOp.la ?_ | refine AQ.p rfl (AOp.ll 0) ?_) <;> (first | refine AQ.e ?_ | refine AQ.p rfl AOp.bn ?_) <;> refine AQ.es 1 ?_ <;> refine AQ.nil ?_) | refine AW.jt ?_ | refine AW.jf ?_ | refine AW.jj (fun hb => ?_) (fun hb => ?_) | refine AW.go ?_ | fail)
      refine AW.retv rfl ⟨congrArg (fun b => AEnd.ret (AV.bool b)) ?_, rfl⟩
      simp [holdsM, ieq, bne]
    · refine Tri.enter 127 Tryz.func125 rfl rfl rfl rfl fun Fr w0 => ?_
      repeat' (first | (refine AW.r 0 ?_ <;> (first | refine AL.d (AOp.box_ro (v := .st [.int .i64 2, .bool neg, .str nm, ints [x, y]]) rfl rfl) ?_ | refine AL.d (AOp.box_ro rfl rfl) ?_) <;> refine AL.es 1 ?_ <;> refine AL.nil ?_) | (refine AW.r 1 ?_ <;> (first | refine AL.d AOp.fa ?_ | refine AL.d (AOp.fr 0) ?_) <;> (first | refine AL.d (AOp.load_cell 2 rfl rfl g0 rfl (by kernel_rfl)) ?_ | refine AL.d (AOp.load_cell 2 rfl rfl g1 rfl (by kernel_rfl)) ?_ | refine AL.d AOp.la ?_ | refine AL.d (AOp.ll 0) ?_) <;> refine AL.nil ?_) | refine AW.re 2 2 ?_ | refine AW.re 4 2 ?_ | (refine AW.dq 5 ?_ <;> refine AQ.es 2 ?_ <;> (first | refine AQ.p rfl AOp.fa ?_ | refine AQ.p rfl (AOp.fr 6) ?_) <;> (first | refine AQ.p rfl (AOp.load_cell 2 rfl rfl g0 rfl (by kernel_rfl)) ?_ | refine AQ.p rfl (AOp.load_cell 2 rfl rfl g1 rfl (by kernel_rfl)) ?_ | refine AQ.p rfl AOp.la ?_ | refine AQ.p rfl (AOp.ll 0) ?_) <;> (first | refine AQ.p rfl AOp.fa ?_ | refine AQ.p rfl (AOp.fr 3) ?_) <;> (first | refine AQ.p rfl (AOp.load_cell 2 rfl rfl g0 rfl (by kernel_rfl)) ?_ | refine AQ.p rfl (AOp.load_cell 2 rfl rfl g1 rfl (by kernel_rfl)) ?_ | refine AQ.p rfl AOp.la ?_ | refine AQ.p rfl (AOp.ll 0) ?_) <;> (first | refine AQ.p rfl (AOp.index_sl rfl rfl (by omega) e0 (by kernel_rfl) rfl) ?_ | refine AQ.p rfl (AOp.index_sl rfl rfl (by omega) e1 (by kernel_rfl) rfl) ?_ | refine AQ.p rfl (AOp.index_osl rfl rfl (by omega) (by omega) (by kernel_rfl)) ?_) <;> (first | refine AQ.p rfl (AOp.load_cell 2 rfl rfl g0 rfl (by kernel_rfl)) ?_ | refine AQ.p rfl (AOp.load_cell 2 rfl rfl g1 rfl (by kernel_rfl)) ?_ | refine AQ.p rfl AOp.la ?_ | refine AQ.p rfl (AOp.ll 0) ?_) <;> (first | refine AQ.p rfl (AOp.index_sl rfl rfl (by omega) e0 (by kernel_rfl) rfl) ?_ | refine AQ.p rfl (AOp.index_sl rfl rfl (by omega) e1 (by kernel_rfl) rfl) ?_ | refine AQ.p rfl (AOp.index_osl rfl rfl (by omega) (by omega) (by kernel_rfl)) ?_) <;> (first | refine AQ.p rfl (AOp.load_cell 2 rfl rfl g0 rfl (by kernel_rfl)) ?_ | refine AQ.p rfl (AOp.load_cell 2 rfl rfl g1 rfl (by kernel_rfl)) ?_ | refine AQ.p rfl AOp.la ?_ | refine AQ.p rfl (AOp.ll 0) ?_) <;> refine AQ.es 2 ?_ <;> (first | refine AQ.p rfl AOp.fa ?_ | refine AQ.p rfl (AOp.fr 6) ?_) <;> (first | refine AQ.p rfl (AOp.load_cell 2 rfl rfl g0 rfl (by kernel_rfl)) ?_ | refine AQ.p rfl (AOp.load_cell 2 rfl rfl g1 rfl (by kernel_rfl)) ?_ | refine AQ.p rfl AOp.la ?_ | refine AQ.p rfl (AOp.ll 0) ?_) <;> (first | refine AQ.p rfl AOp.fa ?_ | refine AQ.p rfl (AOp.fr 3) ?_) <;> (first | refine AQ.p rfl (AOp.load_cell 2 rfl rfl g0 rfl (by kernel_rfl)) ?_ | refine AQ.p rfl (AOp.load_cell 2 rfl rfl g1 rfl (by kernel_rfl)) ?_ | refine AQ.p rfl AOp.la ?_ | refine AQ.p rfl (AOp.ll 0) ?_) <;> (first | refine AQ.p rfl (AOp.index_sl rfl rfl (by omega) e0 (by kernel_rfl) rfl) ?_ | refine AQ.p rfl (AOp.index_sl rfl rfl (by omega) e1 (by kernel_rfl) rfl) ?_ | refine AQ.p rfl (AOp.index_osl rfl rfl (by omega) (by omega) (by kernel_rfl)) ?_) <;> (first | refine AQ.p rfl (AOp.load_cell 2 rfl rfl g0 rfl (by kernel_rfl)) ?_ | refine AQ.p rfl (AOp.load_cell 2 rfl rfl g1 rfl (by kernel_rfl)) ?_ | refine AQ.p rfl AOp.la ?_ | refine AQ.p rfl (AOp.ll 0) ?_) <;> (first | refine AQ.p rfl (AOp.index_sl rfl rfl (by omega) e0 (by kernel_rfl) rfl) ?_ | refine AQ.p rfl (AOp.index_sl rfl rfl (by omega) e1 (by kernel_rfl) rfl) ?_ | refine AQ.p rfl (AOp.index_osl rfl rfl (by omega) (by omega) (by kernel_rfl)) ?_) <;> (first | refine AQ.p rfl (AOp.load_cell 2 rfl rfl g0 rfl (by kernel_rfl)) ?_ | refine AQ.p rfl (AOp.load_cell 2 rfl rfl g1 rfl (by kernel_rfl)) ?_ | refine AQ.p rfl AOp.la ?_ | refine AQ.p rfl (AOp.ll 0) ?_) <;> refine AQ.es 1 ?_ <;> (first | refine AQ.p rfl AOp.fa ?_ | refine AQ.p rfl (AOp.fr 1) ?_) <;> (first | refine AQ.p rfl (AOp.load_cell 2 rfl rfl g0 rfl (by kernel_rfl)) ?_ | refine AQ.p rfl (AOp.load_cell 2 rfl rfl g1 rfl (by kernel_rfl)) ?_ | refine AQ.p rfl AOp.la ?_ | refine AQ.p rfl (AOp.ll 0) ?_) <;> (first | refine AQ.e ?_ | refine AQ.p rfl AOp.bn ?_) <;> refine AQ.es 1 ?_ <;> refine AQ.nil ?_) | refine AW.jt ?_ | refine AW.jf ?_ | refine AW.jj (fun hb => ?_) (fun hb => ?_) | refine AW.go ?_ | fail)
      refine AW.retv rfl ⟨congrArg (fun b => AEnd.ret (AV.bool b)) ?_, rfl⟩
      simp [holdsM, ieq, bne]
  · rw [if_neg hk] at hs
    obtain ⟨hk0, ha⟩ := hs
    obtain ⟨kd, neg, nm, at_⟩ := l
    simp only at hk hr hk0 ha hl
    subst hk0
    obtain ⟨hin, hlen, hle⟩ := hm.mf.sig _ _ ha
    simp only [RG.E] at hlen hle
    have hrk := ref_rank hm 0 at_ hr hle hl
    have hbd := rankM_bd hm.mf.n.1 hm.mf.regs at_ 0 0 (by rw [hm.mf.rlen]; exact hr) (by omega) (by simp)
    rw [Nat.zero_add] at hbd
    simp only [RG.E] at hbd
    have g0 := flag_get (fl := m.rels nm) (x := rankM X.n m.regs at_ 0) (by omega)
    have hF := ref_find X.c.Arrays nm (by omega)
    have hgoal : holdsM X.n m ⟨0, neg, nm, at_⟩ = (flagAt (m.rels nm) (rankM X.n m.regs at_ 0) != neg) := by simp [holdsM]
    rw [hgoal]
    cases hA : arOf X.c.Arrays nm with
    | some n =>
      obtain ⟨j, a, b, f1, f2, f3, f4, f5⟩ := arr_find hX hA
      rw [f1] at hF
      have hrow := has_at X m bk 0 f2
      have htab := tab_at X m bk 0 f4
      have hcell := tab_cell m bk f2
      rw [f3] at hrow hcell
      have hAb : (X.A.map fun b => (⟨b, 0, none⟩ : Addr)) = some ⟨b, 0, none⟩ := by rw [f4]; rfl
      refine Tri.enter 127 Tryz.func125 rfl rfl rfl rfl fun Fr w0 => ?_
      repeat' (first | (refine AW.r 0 ?_ <;> (first | refine AL.d (AOp.box_ro (v := .st [.int .i64 0, .bool neg, .str nm, ints at_]) rfl rfl) ?_ | refine AL.d (AOp.box_ro rfl rfl) ?_) <;> refine AL.es 1 ?_ <;> refine AL.nil ?_) | (refine AW.r 1 ?_ <;> (first | refine AL.d AOp.fa ?_ | refine AL.d (AOp.fr 0) ?_) <;> (first | refine AL.d (AOp.load_cell (X.c.Arrays.length + 3) rfl htab hcell rfl (by kernel_rfl)) ?_ | refine AL.d (AOp.load_cell (j + 3) rfl hrow g0 rfl (by kernel_rfl)) ?_ | refine AL.d AOp.la ?_ | refine AL.d (AOp.ll 0) ?_) <;> refine AL.nil ?_) | refine AW.re 2 2 ?_ | refine AW.re 4 2 ?_ | (refine AW.dq 6 ?_ <;> refine AQ.es 2 ?_ <;> (first | refine AQ.p rfl AOp.fa ?_ | refine AQ.p rfl (AOp.fr 0) ?_) <;> (first | refine AQ.p rfl AOp.fa ?_ | refine AQ.p rfl (AOp.fr 2) ?_) <;> (first | refine AQ.p rfl (AOp.load_cell (X.c.Arrays.length + 3) rfl htab hcell rfl (by kernel_rfl)) ?_ | refine AQ.p rfl (AOp.load_cell (j + 3) rfl hrow g0 rfl (by kernel_rfl)) ?_ | refine AQ.p rfl AOp.la ?_ | refine AQ.p rfl (AOp.ll 0) ?_) <;> (first | refine AQ.p rfl AOp.fa ?_ | refine AQ.p rfl (AOp.fr 2) ?_) <;> (first | refine AQ.p rfl (AOp.load_cell (X.c.Arrays.length + 3) rfl htab hcell rfl (by kernel_rfl)) ?_ | refine AQ.p rfl (AOp.load_cell (j + 3) rfl hrow g0 rfl (by kernel_rfl)) ?_ | refine AQ.p rfl AOp.la ?_ | refine AQ.p rfl (AOp.ll 0) ?_) <;> (first | refine AQ.p rfl (AOp.call rfl rfl (hF.pure _)) ?_ | refine AQ.p rfl (AOp.call rfl rfl hrk) ?_) <;> refine AQ.es 1 ?_ <;> refine AQ.nil ?_) | refine AW.re 7 2 ?_ | (refine AW.dq 8 ?_ <;> refine AQ.es 2 ?_ <;> (first | refine AQ.p rfl AOp.fa ?_ | refine AQ.p rfl (AOp.fr 7) ?_) <;> (first | refine AQ.p rfl (AOp.load_cell (X.c.Arrays.length + 3) rfl htab hcell rfl (by kernel_rfl)) ?_ | refine AQ.p rfl (AOp.load_cell (j + 3) rfl hrow g0 rfl (by kernel_rfl)) ?_ | refine AQ.p rfl AOp.la ?_ | refine AQ.p rfl (AOp.ll 0) ?_) <;> refine AQ.es 1 ?_ <;> (first | refine AQ.p rfl (AOp.index_val 3 rfl hAb rfl (by omega) (by omega) (by kernel_rfl)) ?_ | refine AQ.p rfl (AOp.index_osl rfl rfl (by omega) (by omega) (by kernel_rfl)) ?_) <;> (first | refine AQ.p rfl AOp.fa ?_ | refine AQ.p rfl (AOp.fr 2) ?_) <;> (first | refine AQ.p rfl (AOp.load_cell (X.c.Arrays.length + 3) rfl htab hcell rfl (by kernel_rfl)) ?_ | refine AQ.p rfl (AOp.load_cell (j + 3) rfl hrow g0 rfl (by kernel_rfl)) ?_ | refine AQ.p rfl AOp.la ?_ | refine AQ.p rfl (AOp.ll 0) ?_) <;> refine AQ.es 1 ?_ <;> (first | refine AQ.p rfl AOp.fa ?_ | refine AQ.p rfl (AOp.fr 3) ?_) <;> (first | refine AQ.p rfl (AOp.load_cell (X.c.Arrays.length + 3) rfl htab hcell rfl (by kernel_rfl)) ?_ | refine AQ.p rfl (AOp.load_cell (j + 3) rfl hrow g0 rfl (by kernel_rfl)) ?_ | refine AQ.p rfl AOp.la ?_ | refine AQ.p rfl (AOp.ll 0) ?_) <;> (first | refine AQ.p rfl (AOp.call rfl rfl (hF.pure _)) ?_ | refine AQ.p rfl (AOp.call rfl rfl hrk) ?_) <;> (first | refine AQ.p rfl (AOp.index_val 3 rfl hAb rfl (by omega) (by omega) (by kernel_rfl)) ?_ | refine AQ.p rfl (AOp.index_osl rfl rfl (by omega) (by omega) (by kernel_rfl)) ?_) <;> (first | refine AQ.p rfl (AOp.load_cell (X.c.Arrays.length + 3) rfl htab hcell rfl (by kernel_rfl)) ?_ | refine AQ.p rfl (AOp.load_cell (j + 3) rfl hrow g0 rfl (by kernel_rfl)) ?_ | refine AQ.p rfl AOp.la ?_ | refine AQ.p rfl (AOp.ll 0) ?_) <;> (first | refine AQ.p rfl AOp.fa ?_ | refine AQ.p rfl (AOp.fr 1) ?_) <;> (first | refine AQ.p rfl (AOp.load_cell (X.c.Arrays.length + 3) rfl htab hcell rfl (by kernel_rfl)) ?_ | refine AQ.p rfl (AOp.load_cell (j + 3) rfl hrow g0 rfl (by kernel_rfl)) ?_ | refine AQ.p rfl AOp.la ?_ | refine AQ.p rfl (AOp.ll 0) ?_) <;> (first | refine AQ.e ?_ | refine AQ.p rfl AOp.bn ?_) <;> refine AQ.es 1 ?_ <;> refine AQ.nil ?_) | refine AW.jt ?_ | refine AW.jf ?_ | refine AW.jj (fun hb => ?_) (fun hb => ?_) | refine AW.go ?_ | fail)
      all_goals try (exfalso; simp only [decide_eq_true_eq, decide_eq_false_iff_not] at *; omega)
      exact AW.retv rfl ⟨rfl, rfl⟩
    | none =>
      obtain ⟨j, p, r1, r2⟩ := hX.rel nm _ hA ha
      have hrl2 := hX.rl
      have hro := hm.ro nm hA
      rcases findJ_spec nm X.c.Arrays 0 with ⟨e1, -⟩ | ⟨_, _, _, _, _, e⟩
      · rw [e1] at hF
        have hjl := (List.getElem?_eq_some_iff.1 r1).1
        refine Tri.enter 127 Tryz.func125 rfl rfl rfl rfl fun Fr w0 => ?_
        repeat' (first | (refine AW.r 0 ?_ <;> (first | refine AL.d (AOp.box_ro (v := .st [.int .i64 0, .bool neg, .str nm, ints at_]) rfl rfl) ?_ | refine AL.d (AOp.box_ro rfl rfl) ?_) <;> refine AL.es 1 ?_ <;> refine AL.nil ?_) | (refine AW.r 1 ?_ <;> (first | refine AL.d AOp.fa ?_ | refine AL.d (AOp.fr 0) ?_) <;> (first | refine AL.d AOp.la ?_ | refine AL.d (AOp.ll 0) ?_) <;> refine AL.nil ?_) | refine AW.re 2 2 ?_ | refine AW.re 4 2 ?_ | (refine AW.dq 6 ?_ <;> refine AQ.es 2 ?_ <;> (first | refine AQ.p rfl AOp.fa ?_ | refine AQ.p rfl (AOp.fr 0) ?_) <;> (first | refine AQ.p rfl AOp.fa ?_ | refine AQ.p rfl (AOp.fr 2) ?_) <;> (first | refine AQ.p rfl AOp.la ?_ | refine AQ.p rfl (AOp.ll 0) ?_) <;> (first | refine AQ.p rfl AOp.fa ?_ | refine AQ.p rfl (AOp.fr 2) ?_) <;> (first | refine AQ.p rfl AOp.la ?_ | refine AQ.p rfl (AOp.ll 0) ?_) <;> refine AQ.p rfl (AOp.call rfl rfl (hF.pure _)) ?_ <;> refine AQ.es 1 ?_ <;> refine AQ.nil ?_) | refine AW.re 7 2 ?_ | refine AW.re 9 1 ?_ | refine AW.jt ?_ | refine AW.jf ?_ | refine AW.jj (fun hb => ?_) (fun hb => ?_) | refine AW.go ?_ | fail)
        refine AW.prune [0, 3, 6] (AW.loop (fun mz af h => ∃ (i : Nat), i ≤ X.RL.length ∧ mz = X.RL.length - i ∧ af = [(0, .ref X.mb 0), (3, .at (.st [.int .i64 0, .bool neg, .str nm, ints at_])), (6, .int .i64 i)] ∧ h = m.rah X bk 0 ∧ i ≤ j) X.RL.length ⟨0, Nat.zero_le _, rfl, rfl, rfl, Nat.zero_le _⟩ ?_)
        rintro mz af h ⟨i, hi, rfl, rfl, rfl, he⟩
        refine AW.seq ?_
        by_cases hlt : i < X.RL.length
        · obtain ⟨q, hq⟩ := get_lt hlt
          have hq' : (X.RL.map relT)[((i : Nat) : Int).toNat]? = some (.st [.str q.1, .int .i64 q.2.1, bools q.2.2]) := map_get hq
          by_cases hij : i = j
          · subst hij
            rw [r1] at hq
            obtain rfl := Option.some.inj hq
            rw [hro] at g0 hlen ⊢
            repeat' (first | (refine AW.r 10 ?_ <;> refine AL.es 3 ?_ <;> (first | refine AL.d AOp.fa ?_ | refine AL.d (AOp.fr 8) ?_) <;> (first | refine AL.d AOp.la ?_ | refine AL.d (AOp.ll 0) ?_) <;> refine AL.es 2 ?_ <;> refine AL.nil ?_) | refine AW.jt ?_ | refine AW.jf ?_ | refine AW.jj (fun hb => ?_) (fun hb => ?_) | refine AW.go ?_ | fail)
            all_goals try (exfalso; simp only [decide_eq_true_eq, decide_eq_false_iff_not, List.length_map] at *; omega)
            have hre : (nm.toList == nm.toList) = true := by simp
            repeat' (first | (refine AW.dq 12 ?_ <;> refine AQ.es 2 ?_ <;> (first | refine AQ.p rfl AOp.fa ?_ | refine AQ.p rfl (AOp.fr 8) ?_) <;> (first | refine AQ.p rfl AOp.la ?_ | refine AQ.p rfl (AOp.ll 0) ?_) <;> refine AQ.es 1 ?_ <;> (first | refine AQ.p rfl (AOp.index_sl rfl rfl (by omega) hq' (by kernel_rfl) rfl) ?_ | refine AQ.p rfl (AOp.index_sl rfl rfl (by omega) g0 (by kernel_rfl) rfl) ?_) <;> (first | refine AQ.p rfl AOp.fa ?_ | refine AQ.p rfl (AOp.fr 0) ?_) <;> (first | refine AQ.p rfl AOp.la ?_ | refine AQ.p rfl (AOp.ll 0) ?_) <;> (first | refine AQ.p rfl AOp.fa ?_ | refine AQ.p rfl (AOp.fr 2) ?_) <;> (first | refine AQ.p rfl AOp.la ?_ | refine AQ.p rfl (AOp.ll 0) ?_) <;> refine AQ.es 1 ?_ <;> refine AQ.nil ?_) | (refine AW.dq 13 ?_ <;> refine AQ.es 2 ?_ <;> (first | refine AQ.p rfl AOp.fa ?_ | refine AQ.p rfl (AOp.fr 8) ?_) <;> (first | refine AQ.p rfl AOp.la ?_ | refine AQ.p rfl (AOp.ll 0) ?_) <;> refine AQ.es 1 ?_ <;> (first | refine AQ.p rfl (AOp.index_sl rfl rfl (by omega) hq' (by kernel_rfl) rfl) ?_ | refine AQ.p rfl (AOp.index_sl rfl rfl (by omega) g0 (by kernel_rfl) rfl) ?_) <;> (first | refine AQ.p rfl AOp.fa ?_ | refine AQ.p rfl (AOp.fr 2) ?_) <;> (first | refine AQ.p rfl AOp.la ?_ | refine AQ.p rfl (AOp.ll 0) ?_) <;> refine AQ.es 1 ?_ <;> (first | refine AQ.p rfl AOp.fa ?_ | refine AQ.p rfl (AOp.fr 3) ?_) <;> (first | refine AQ.p rfl AOp.la ?_ | refine AQ.p rfl (AOp.ll 0) ?_) <;> refine AQ.p rfl (AOp.call rfl rfl hrk) ?_ <;> (first | refine AQ.p rfl (AOp.index_sl rfl rfl (by omega) hq' (by kernel_rfl) rfl) ?_ | refine AQ.p rfl (AOp.index_sl rfl rfl (by omega) g0 (by kernel_rfl) rfl) ?_) <;> (first | refine AQ.p rfl AOp.la ?_ | refine AQ.p rfl (AOp.ll 0) ?_) <;> (first | refine AQ.p rfl AOp.fa ?_ | refine AQ.p rfl (AOp.fr 1) ?_) <;> (first | refine AQ.p rfl AOp.la ?_ | refine AQ.p rfl (AOp.ll 0) ?_) <;> (first | refine AQ.e ?_ | refine AQ.p rfl AOp.bn ?_) <;> refine AQ.es 1 ?_ <;> refine AQ.nil ?_) | refine AW.jt ?_ | refine AW.jf ?_ | refine AW.jj (fun hb => ?_) (fun hb => ?_) | refine AW.go ?_ | fail)
            · exact AW.retv rfl ⟨rfl, rfl⟩
            · rw [hre] at hb; cases hb
          · have hne := r2 i q (by omega) hq
            repeat' (first | (refine AW.r 10 ?_ <;> refine AL.es 3 ?_ <;> (first | refine AL.d AOp.fa ?_ | refine AL.d (AOp.fr 8) ?_) <;> (first | refine AL.d AOp.la ?_ | refine AL.d (AOp.ll 0) ?_) <;> refine AL.es 2 ?_ <;> refine AL.nil ?_) | refine AW.jt ?_ | refine AW.jf ?_ | refine AW.jj (fun hb => ?_) (fun hb => ?_) | refine AW.go ?_ | fail)
            all_goals try (exfalso; simp only [decide_eq_true_eq, decide_eq_false_iff_not, List.length_map] at *; omega)
            repeat' (first | (refine AW.dq 12 ?_ <;> refine AQ.es 2 ?_ <;> (first | refine AQ.p rfl AOp.fa ?_ | refine AQ.p rfl (AOp.fr 8) ?_) <;> (first | refine AQ.p rfl AOp.la ?_ | refine AQ.p rfl (AOp.ll 0) ?_) <;> refine AQ.es 1 ?_ <;> refine AQ.p rfl (AOp.index_sl rfl rfl (by omega) hq' (by kernel_rfl) rfl) ?_ <;> (first | refine AQ.p rfl AOp.fa ?_ | refine AQ.p rfl (AOp.fr 0) ?_) <;> (first | refine AQ.p rfl AOp.la ?_ | refine AQ.p rfl (AOp.ll 0) ?_) <;> (first | refine AQ.p rfl AOp.fa ?_ | refine AQ.p rfl (AOp.fr 2) ?_) <;> (first | refine AQ.p rfl AOp.la ?_ | refine AQ.p rfl (AOp.ll 0) ?_) <;> refine AQ.es 1 ?_ <;> refine AQ.nil ?_) | (refine AW.r 11 ?_ <;> refine AL.es 1 ?_ <;> refine AL.d AOp.ad ?_ <;> refine AL.es 1 ?_ <;> refine AL.nil ?_) | refine AW.jt ?_ | refine AW.jf ?_ | refine AW.jj (fun hb => ?_) (fun hb => ?_) | refine AW.go ?_ | fail)
            · rw [toList_beq] at hb; simp [hne] at hb
            · exact AW.again_keep (X.RL.length - (i + 1)) [0, 3, 6] (by omega) ⟨i + 1, hlt, rfl, rfl, rfl, by omega⟩
        · exfalso; omega
      · rw [hA] at e; cases e
end Go.Proofs.YtdedkpfbfklgbaaGreat
namespace Go.Proofs.YtdedkpfbfklgbaaGreat
open Go.RowKit Go.SX
set_option maxRecDepth 100000
set_option maxHeartbeats 4000000
set_option linter.unusedVariables false
set_option linter.unusedSimpArgs false
variable {X : RG} {F R : Nat} {sig : ByteArray → Option Nat} {B : Blk} {m : MS} {bk : RK}
theorem rah_setflag (X : RG) (m : MS) (bk : RK) (err f : Int) (b : Bool) : (m.rah X bk err).set 1 (.row X.fb ((m.flags.map bav).set f.toNat (.bool b))) = (m.setF f b).rah X bk err := by
  have h1 : (m.flags.map bav).set f.toNat (.bool b) = (m.flags.set f.toNat b).map bav := by rw [List.map_set]; rfl
  have h2 : (m.setF f b).rbox X err = m.rbox X err := by simp [MS.rbox, MS.setF]
  rw [h1]
  simp only [MS.rah, h2]
  rfl
theorem rah_setreg (X : RG) (m : MS) (bk : RK) (err r v : Int) : (m.rah X bk err).set 2 (.row X.rb ((m.regs.map iav).set r.toNat (.int .i64 v))) = (m.setR r v).rah X bk err := by
  have h1 : (m.regs.map iav).set r.toNat (.int .i64 v) = (m.regs.set r.toNat v).map iav := by rw [List.map_set]; rfl
  have h2 : (m.setR r v).rbox X err = m.rbox X err := by simp [MS.rbox, MS.setR]
  rw [h1]
  simp only [MS.rah, h2]
  rfl
theorem nd_ne {l : List GSym} (hn : (l.map (·.Name)).Nodup) {j : Nat} {a : GSym} (hj : l[j]? = some a) : ∀ (i : Nat) x, l[i]? = some x → i ≠ j → x.Name ≠ a.Name := by
  intro i x hi hne he
  have h1 : (l.map (·.Name))[i]? = some x.Name := by rw [List.getElem?_map, hi]; rfl
  have h2 : (l.map (·.Name))[j]? = some x.Name := by rw [List.getElem?_map, hj, he]; rfl
  have := (List.getElem?_inj (by have := (List.getElem?_eq_some_iff.1 hi).1; simpa using this) hn).1 (h1.trans h2.symm)
  exact hne this
theorem map_upd {β : Type} {l : List GSym} (hn : (l.map (·.Name)).Nodup) {f g : GSym → β} {j : Nat} {a : GSym} (hj : l[j]? = some a) (h : ∀ x, x.Name ≠ a.Name → g x = f x) : (l.map f).set j (g a) = l.map g := by
  apply List.ext_getElem?
  intro i
  rw [List.getElem?_set]
  by_cases e : j = i
  · subst e
    have := (List.getElem?_eq_some_iff.1 hj).1
    rw [if_pos rfl, if_pos (by simpa using this), List.getElem?_map, hj]; rfl
  · rw [if_neg e, List.getElem?_map, List.getElem?_map]
    cases hi : l[i]? with
    | none => rfl
    | some x => rw [Option.map_some, Option.map_some, h x (nd_ne hn hj i x hi fun e' => e e'.symm)]
theorem tab_upd {m m' : MS} {bk bk' : RK} {v : AV} : ∀ {l : List GSym} {j : Nat} {a : GSym}, l[j]? = some a → (∀ (i : Nat) x, l[i]? = some x → i ≠ j → tabA m' bk' x = tabA m bk x) → tabA m' bk' a = [.str a.Name, .int .i64 a.Arity, v] → (l.flatMap (tabA m bk)).set (j * 3 + 2) v = l.flatMap (tabA m' bk')
  | [], j, a, h, _, _ => by simp at h
  | x :: l, 0, a, h, ho, hv => by
    obtain rfl : x = a := by simpa using h
    have hl : l.flatMap (tabA m' bk') = l.flatMap (tabA m bk) := by
      rw [List.flatMap_def, List.flatMap_def]
      congr 1
      apply List.map_congr_left
      intro y hy
      obtain ⟨i, hi⟩ := List.getElem?_of_mem hy
      exact ho (i + 1) y (by simpa using hi) (by omega)
    rw [List.flatMap_cons, List.flatMap_cons, hv, hl]; rfl
  | x :: l, j + 1, a, h, ho, hv => by
    have h0 := ho 0 x rfl (by omega)
    have ih := tab_upd (l := l) (j := j) (a := a) (by simpa using h) (fun i y hy hne => ho (i + 1) y (by simpa using hy) (by omega)) hv
    rw [List.flatMap_cons, List.flatMap_cons, h0, ← ih, show (j + 1) * 3 + 2 = (tabA m bk x).length + (j * 3 + 2) by simp [tabA]; omega, List.set_append_right _ _ (by omega)]
    congr 2
    omega
theorem rah_bits (hX : RSt X F R sig) (m : MS) (bk : RK) (err : Int) {j : Nat} {a : GSym} (hj : X.c.Arrays[j]? = some a) (xs : List Bool) (hl : xs.length = (m.rels a.Name).length) :
    (m.rah X bk err).set (j + 3) (.row (bk a.Name).1 (xs.map bav)) = ({ m with rels := upd m.rels a.Name xs } : MS).rah X bk err := by
  have hlt := (List.getElem?_eq_some_iff.1 hj).1
  have ht : ∀ x : GSym, tabA ({ m with rels := upd m.rels a.Name xs } : MS) bk x = tabA m bk x := fun x => by
    unfold tabA upd
    by_cases e : x.Name = a.Name
    · simp only [e, if_true, hl]
    · simp only [if_neg e]
  have h1 : arrRow X ({ m with rels := upd m.rels a.Name xs } : MS) bk = arrRow X m bk := by
    unfold arrRow
    rw [show tabA ({ m with rels := upd m.rels a.Name xs } : MS) bk = tabA m bk from funext ht]
  have h2 : (X.c.Arrays.map (hasRow m bk)).set j (.row (bk a.Name).1 (xs.map bav)) = X.c.Arrays.map (hasRow ({ m with rels := upd m.rels a.Name xs } : MS) bk) := by
    have := map_upd hX.nd (f := hasRow m bk) (g := hasRow ({ m with rels := upd m.rels a.Name xs } : MS) bk) hj fun x hx => by unfold hasRow; simp only [upd_ne _ _ hx]
    rw [← this]
    congr 1
    unfold hasRow
    simp only [upd_same]
  simp only [MS.rah, h1, ← h2]
  show (.box X.mb (m.rbox X err) :: .row X.fb (m.flags.map bav) :: .row X.rb (m.regs.map iav) :: (X.c.Arrays.map (hasRow m bk) ++ arrRow X m bk) : AH).set (j + 3) _ = _
  simp only [List.set_cons_succ]
  rw [List.set_append_left _ _ (by simpa using hlt)]
  rfl
def updK (bk : RK) (k : ByteArray) (p : Nat × Nat) : RK := fun x => if x = k then p else bk x
theorem rah_new (hX : RSt X F R sig) (m : MS) (bk : RK) (err : Int) {j : Nat} {a : GSym} {b : Nat} (hb : X.A = some b) (hj : X.c.Arrays[j]? = some a) (xs : List Bool) (hl : xs.length = (m.rels a.Name).length) (nb cap : Nat) :
    (.box X.mb (m.rbox X err) :: .row X.fb (m.flags.map bav) :: .row X.rb (m.regs.map iav) :: ((X.c.Arrays.map (hasRow m bk)).set j (.row nb (xs.map bav)) ++ [.row b ((X.c.Arrays.flatMap (tabA m bk)).set (j * 3 + 2) (.osl nb (m.rels a.Name).length cap))]) : AH) = ({ m with rels := upd m.rels a.Name xs } : MS).rah X (updK bk a.Name (nb, cap)) err := by
  have h1 : (X.c.Arrays.map (hasRow m bk)).set j (.row nb (xs.map bav)) = X.c.Arrays.map (hasRow ({ m with rels := upd m.rels a.Name xs } : MS) (updK bk a.Name (nb, cap))) := by
    have := map_upd hX.nd (f := hasRow m bk) (g := hasRow ({ m with rels := upd m.rels a.Name xs } : MS) (updK bk a.Name (nb, cap))) hj fun x hx => by unfold hasRow; simp only [upd_ne _ _ hx, updK, if_neg hx]
    rw [← this]
    congr 1
    unfold hasRow
    simp only [upd_same, updK, if_pos]
  have h2 : (X.c.Arrays.flatMap (tabA m bk)).set (j * 3 + 2) (.osl nb (m.rels a.Name).length cap) = X.c.Arrays.flatMap (tabA ({ m with rels := upd m.rels a.Name xs } : MS) (updK bk a.Name (nb, cap))) := by
    refine tab_upd hj (fun i x hi hne => ?_) ?_
    · have hx := nd_ne hX.nd hj i x hi hne
      unfold tabA; simp only [upd_ne _ _ hx, updK, if_neg hx]
    · unfold tabA; simp only [upd_same, updK, if_pos, hl]
  rw [h1, h2]
  have h3 : ({ m with rels := upd m.rels a.Name xs } : MS).rbox X err = m.rbox X err := rfl
  simp only [MS.rah, h3, arrRow, hb]
section
variable {C : Cx} {ds : List Deferred} {ks : List K} {af : AF}
theorem AW.swap {p q r s : Own} {M Q : AH} {j : Nat} (hj : j < M.length) (h : AW C ds ks af (p :: q :: r :: (M.set j s ++ Q))) : AW C ds ks af (s :: p :: q :: r :: (M ++ Q)) := by
  have hs : (s :: p :: q :: r :: (M.eraseIdx j ++ Q)).Sublist (s :: p :: q :: r :: (M ++ Q)) :=
    ((((List.Sublist.append (List.eraseIdx_sublist M j) (List.Sublist.refl Q)).cons_cons r).cons_cons q).cons_cons p).cons_cons s
  refine AW.drop hs (AW.perm ?_ h)
  have h1 : (M.set j s).Perm (s :: M.eraseIdx j) := by
    rw [List.set_eq_take_append_cons_drop, if_pos hj, List.eraseIdx_eq_take_drop_succ]
    exact List.perm_middle
  have h2 : (p :: q :: r :: (M.set j s ++ Q)).Perm (p :: q :: r :: (s :: M.eraseIdx j ++ Q)) := (((h1.append_right Q).cons r).cons q).cons p
  refine List.Perm.trans ?_ h2.symm
  have e1 : (s :: p :: q :: r :: (M.eraseIdx j ++ Q)).Perm (p :: s :: q :: r :: (M.eraseIdx j ++ Q)) := List.Perm.swap _ _ _
  have e2 : (p :: s :: q :: r :: (M.eraseIdx j ++ Q)).Perm (p :: q :: s :: r :: (M.eraseIdx j ++ Q)) := (List.Perm.swap _ _ _).cons p
  have e3 : (p :: q :: s :: r :: (M.eraseIdx j ++ Q)).Perm (p :: q :: r :: s :: (M.eraseIdx j ++ Q)) := ((List.Perm.swap _ _ _).cons q).cons p
  exact (e1.trans e2).trans e3
end
theorem RFit.upd (hX : RSt X F R sig) (hm : RFit X F R sig B m bk) {k : ByteArray} {n : Int} (hk : arOf X.c.Arrays k = some n) (xs : List Bool) (hl : xs.length = (m.rels k).length) (u : Int) (hu : 0 ≤ u ∧ u ≤ X.G.length) (p : Nat × Nat) (hp : xs.length ≤ p.2) :
    RFit X F R sig B { m with rels := upd m.rels k xs, used := u } (updK bk k p) := by
  refine ⟨hm.mf.upd k xs hl u hu, fun k' h => ?_, fun k' n' h => ?_⟩
  · have : k' ≠ k := fun e => by rw [e, hk] at h; cases h
    show Go.Proofs.YtdedkpfbfklgbaaGreat.upd m.rels k xs k' = _
    rw [upd_ne _ _ this]
    exact hm.ro k' h
  · show (Go.Proofs.YtdedkpfbfklgbaaGreat.upd m.rels k xs k').length ≤ (updK bk k p k').2
    unfold updK
    by_cases e : k' = k
    · rw [if_pos e, e, upd_same]; exact hp
    · rw [if_neg e, upd_ne _ _ e]; exact hm.cap k' n' h
theorem RFit.bits (hX : RSt X F R sig) (hm : RFit X F R sig B m bk) {k : ByteArray} {n : Int} (hk : arOf X.c.Arrays k = some n) (xs : List Bool) (hl : xs.length = (m.rels k).length) :
    RFit X F R sig B { m with rels := Go.Proofs.YtdedkpfbfklgbaaGreat.upd m.rels k xs } bk := by
  have h := hm.upd hX hk xs hl m.used hm.mf.used (bk k) (by rw [hl]; exact hm.cap k n hk)
  have e : updK bk k (bk k) = bk := funext fun x => by unfold updK; split <;> simp_all
  rw [e] at h
  exact h
theorem RFit.flag (hm : RFit X F R sig B m bk) (f : Int) (b : Bool) : RFit X F R sig B (m.setF f b) bk := ⟨hm.mf.setF f b, hm.ro, hm.cap⟩
def APost (X : RG) (F R : Nat) (sig : ByteArray → Option Nat) (B : Blk) (m' : MS) : AEnd → AH → Prop := fun x h => ∃ bk', RFit X F R sig B m' bk' ∧ h = m'.rah X bk' 0 ∧ x = .ret (.tup [])
theorem arr_6 (hX : RSt X F R sig) (hm : RFit X F R sig B m bk) (s : GStmt) (hs : Fit F R sig s) (hk : s.Kind = 6) (hl : s.Regs.length ≤ 4611686018427387904) {n : Int} (hA : arOf X.c.Arrays s.Name = some n) :
    Tri Tryz.prog 127 [.ref X.mb 0, s.st] (m.rah X bk 0) (APost X F R sig B (prim X.n s m)) := by
  have hf := hs.f (by rw [hk]; rfl)
  have hfl := hm.mf.flen
  have g0 := flag_get (fl := m.flags) (x := s.F) (by omega)
  have ha := hs.store (by rw [hk]; rfl)
  obtain ⟨hin, hlen, hle⟩ := hm.mf.sig _ _ ha
  simp only [RG.E] at hlen hle
  have hrk := ref_rank hm 0 s.Regs hs.regs hle hl
  have hbd := rankM_bd hm.mf.n.1 hm.mf.regs s.Regs 0 0 (by rw [hm.mf.rlen]; exact hs.regs) (by omega) (by simp)
  rw [Nat.zero_add] at hbd
  simp only [RG.E] at hbd
  have hal := hX.al
  obtain ⟨j, a, b, f1, f2, f3, f4, f5⟩ := arr_find hX hA
  have hF := ref_find X.c.Arrays s.Name (by omega)
  have hF2 := ref_find X.c.Arrays s.From (by omega)
  rw [f1] at hF
  have hrow := has_at X m bk 0 f2
  have htab := tab_at X m bk 0 f4
  have hcell := tab_cell m bk f2
  have hAb : (X.A.map fun b => (⟨b, 0, none⟩ : Addr)) = some ⟨b, 0, none⟩ := by rw [f4]; rfl
  have hbits := rah_bits hX m bk 0 f2 ((m.rels a.Name).set (rankM X.n m.regs s.Regs 0).toNat (flagAt m.flags s.F)) (by simp)
  rw [List.map_set] at hbits
  rw [f3] at hrow hcell hbits
  have hres : prim X.n s m = { m with rels := upd m.rels s.Name ((m.rels s.Name).set (rankM X.n m.regs s.Regs 0).toNat (flagAt m.flags s.F)) } := by simp [prim, hk]
  have hfit := hm.bits hX hA ((m.rels s.Name).set (rankM X.n m.regs s.Regs 0).toNat (flagAt m.flags s.F)) (by simp)
  rw [hres]
  obtain ⟨kd, sf, sg, sr, sn, snm, sfr, slit, sregs, sbody, sels⟩ := s
  simp only at *
  subst hk
  refine Tri.enter 143 Tryz.func127 rfl rfl rfl rfl fun Fr w0 => ?_
  repeat' (first | (refine AW.r 0 ?_ <;> (first | refine AL.d (AOp.box_ro (v := .st [.int .i64 6, .int .i64 sf, .int .i64 sg, .int .i64 sr, .int .i64 sn, .str snm, .str sfr, slit.av, ints sregs, .sl (sbody.map GStmt.av), .sl (sels.map GStmt.av)]) rfl rfl) ?_ | refine AL.d (AOp.box_ro rfl rfl) ?_) <;> refine AL.nil ?_) | (refine AW.dq 1 ?_ <;> refine AQ.es 2 ?_ <;> (first | refine AQ.p rfl AOp.fa ?_ | refine AQ.p rfl (AOp.fr 0) ?_) <;> (first | refine AQ.p rfl AOp.fa ?_ | refine AQ.p rfl (AOp.fr 2) ?_) <;> (first | refine AQ.p rfl (AOp.load_cell (X.c.Arrays.length + 3) rfl htab hcell rfl (by kernel_rfl)) ?_ | refine AQ.p rfl (AOp.load_cell 1 rfl rfl g0 rfl (by kernel_rfl)) ?_ | refine AQ.p rfl AOp.la ?_ | refine AQ.p rfl (AOp.ll 0) ?_) <;> (first | refine AQ.p rfl AOp.fa ?_ | refine AQ.p rfl (AOp.fr 5) ?_) <;> (first | refine AQ.p rfl (AOp.load_cell (X.c.Arrays.length + 3) rfl htab hcell rfl (by kernel_rfl)) ?_ | refine AQ.p rfl (AOp.load_cell 1 rfl rfl g0 rfl (by kernel_rfl)) ?_ | refine AQ.p rfl AOp.la ?_ | refine AQ.p rfl (AOp.ll 0) ?_) <;> (first | refine AQ.p rfl (AOp.call rfl rfl (hF.pure _)) ?_ | refine AQ.p rfl (AOp.call rfl rfl (hF2.pure _)) ?_ | refine AQ.p rfl (AOp.call rfl rfl hrk) ?_) <;> refine AQ.es 2 ?_ <;> (first | refine AQ.p rfl AOp.fa ?_ | refine AQ.p rfl (AOp.fr 0) ?_) <;> (first | refine AQ.p rfl AOp.fa ?_ | refine AQ.p rfl (AOp.fr 2) ?_) <;> (first | refine AQ.p rfl (AOp.load_cell (X.c.Arrays.length + 3) rfl htab hcell rfl (by kernel_rfl)) ?_ | refine AQ.p rfl (AOp.load_cell 1 rfl rfl g0 rfl (by kernel_rfl)) ?_ | refine AQ.p rfl AOp.la ?_ | refine AQ.p rfl (AOp.ll 0) ?_) <;> (first | refine AQ.p rfl AOp.fa ?_ | refine AQ.p rfl (AOp.fr 6) ?_) <;> (first | refine AQ.p rfl (AOp.load_cell (X.c.Arrays.length + 3) rfl htab hcell rfl (by kernel_rfl)) ?_ | refine AQ.p rfl (AOp.load_cell 1 rfl rfl g0 rfl (by kernel_rfl)) ?_ | refine AQ.p rfl AOp.la ?_ | refine AQ.p rfl (AOp.ll 0) ?_) <;> (first | refine AQ.p rfl (AOp.call rfl rfl (hF.pure _)) ?_ | refine AQ.p rfl (AOp.call rfl rfl (hF2.pure _)) ?_ | refine AQ.p rfl (AOp.call rfl rfl hrk) ?_) <;> refine AQ.es 2 ?_ <;> refine AQ.nil ?_) | (refine AW.r 2 ?_ <;> (first | refine AL.d AOp.fa ?_ | refine AL.d (AOp.fr 0) ?_) <;> (first | refine AL.d (AOp.load_cell (X.c.Arrays.length + 3) rfl htab hcell rfl (by kernel_rfl)) ?_ | refine AL.d (AOp.load_cell 1 rfl rfl g0 rfl (by kernel_rfl)) ?_ | refine AL.d AOp.la ?_ | refine AL.d (AOp.ll 0) ?_) <;> refine AL.nil ?_) | refine AW.re 3 2 ?_ | (refine AW.dl 4 21 ?_ <;> refine AQ.es 2 ?_ <;> (first | refine AQ.p rfl AOp.fa ?_ | refine AQ.p rfl (AOp.fr 7) ?_) <;> (first | refine AQ.p rfl (AOp.load_cell (X.c.Arrays.length + 3) rfl htab hcell rfl (by kernel_rfl)) ?_ | refine AQ.p rfl (AOp.load_cell 1 rfl rfl g0 rfl (by kernel_rfl)) ?_ | refine AQ.p rfl AOp.la ?_ | refine AQ.p rfl (AOp.ll 0) ?_) <;> refine AQ.es 1 ?_ <;> (first | refine AQ.p rfl (AOp.index_val 3 rfl hAb rfl (by omega) (by omega) (by kernel_rfl)) ?_ | refine AQ.p rfl (AOp.index_osl rfl rfl (by omega) (by omega) (by kernel_rfl)) ?_) <;> (first | refine AQ.p rfl AOp.fa ?_ | refine AQ.p rfl (AOp.fr 2) ?_) <;> (first | refine AQ.p rfl (AOp.load_cell (X.c.Arrays.length + 3) rfl htab hcell rfl (by kernel_rfl)) ?_ | refine AQ.p rfl (AOp.load_cell 1 rfl rfl g0 rfl (by kernel_rfl)) ?_ | refine AQ.p rfl AOp.la ?_ | refine AQ.p rfl (AOp.ll 0) ?_) <;> refine AQ.es 1 ?_ <;> (first | refine AQ.p rfl AOp.fa ?_ | refine AQ.p rfl (AOp.fr 11) ?_) <;> (first | refine AQ.p rfl (AOp.load_cell (X.c.Arrays.length + 3) rfl htab hcell rfl (by kernel_rfl)) ?_ | refine AQ.p rfl (AOp.load_cell 1 rfl rfl g0 rfl (by kernel_rfl)) ?_ | refine AQ.p rfl AOp.la ?_ | refine AQ.p rfl (AOp.ll 0) ?_) <;> (first | refine AQ.p rfl (AOp.call rfl rfl (hF.pure _)) ?_ | refine AQ.p rfl (AOp.call rfl rfl (hF2.pure _)) ?_ | refine AQ.p rfl (AOp.call rfl rfl hrk) ?_) <;> refine AQ.es 2 ?_ <;> (first | refine AQ.p rfl AOp.fa ?_ | refine AQ.p rfl (AOp.fr 5) ?_) <;> (first | refine AQ.p rfl (AOp.load_cell (X.c.Arrays.length + 3) rfl htab hcell rfl (by kernel_rfl)) ?_ | refine AQ.p rfl (AOp.load_cell 1 rfl rfl g0 rfl (by kernel_rfl)) ?_ | refine AQ.p rfl AOp.la ?_ | refine AQ.p rfl (AOp.ll 0) ?_) <;> (first | refine AQ.p rfl AOp.fa ?_ | refine AQ.p rfl (AOp.fr 1) ?_) <;> (first | refine AQ.p rfl (AOp.load_cell (X.c.Arrays.length + 3) rfl htab hcell rfl (by kernel_rfl)) ?_ | refine AQ.p rfl (AOp.load_cell 1 rfl rfl g0 rfl (by kernel_rfl)) ?_ | refine AQ.p rfl AOp.la ?_ | refine AQ.p rfl (AOp.ll 0) ?_) <;> (first | refine AQ.p rfl (AOp.index_val 3 rfl hAb rfl (by omega) (by omega) (by kernel_rfl)) ?_ | refine AQ.p rfl (AOp.index_osl rfl rfl (by omega) (by omega) (by kernel_rfl)) ?_) <;> (first | refine AQ.p rfl (AOp.load_cell (X.c.Arrays.length + 3) rfl htab hcell rfl (by kernel_rfl)) ?_ | refine AQ.p rfl (AOp.load_cell 1 rfl rfl g0 rfl (by kernel_rfl)) ?_ | refine AQ.p rfl AOp.la ?_ | refine AQ.p rfl (AOp.ll 0) ?_) <;> (first | refine AQ.p rfl (AOp.index_val 3 rfl hAb rfl (by omega) (by omega) (by kernel_rfl)) ?_ | refine AQ.p rfl (AOp.index_osl rfl rfl (by omega) (by omega) (by kernel_rfl)) ?_) <;> refine AQ.nil ?_ <;> (first | (refine AL.store_cell (j + 3) rfl rfl hrow (by simp; omega) rfl rfl (by kernel_rfl) ?_) | refine AL.sl 0 ?_) <;> refine AL.nil ?_) | refine AW.jt ?_ | refine AW.jf ?_ | refine AW.jj (fun hb => ?_) (fun hb => ?_) | refine AW.go ?_ | fail)
  exact AW.donev rfl ⟨bk, hfit, hbits, rfl⟩
end Go.Proofs.YtdedkpfbfklgbaaGreat
namespace Go.Proofs.YtdedkpfbfklgbaaGreat
open Go.RowKit Go.SX
set_option maxRecDepth 100000
set_option maxHeartbeats 4000000
set_option linter.unusedVariables false
set_option linter.unusedSimpArgs false
variable {X : RG} {F R : Nat} {sig : ByteArray → Option Nat} {B : Blk} {m : MS} {bk : RK}
theorem tab_len (m : MS) (bk : RK) : ∀ l : List GSym, (l.flatMap (tabA m bk)).length = l.length * 3
  | [] => rfl
  | x :: l => by rw [List.flatMap_cons, List.length_append, tab_len m bk l, List.length_cons]; simp [tabA]; omega
theorem rah_front (m : MS) (bk : RK) (err : Int) {b : Nat} (hb : X.A = some b) : (m.rah X bk err).Perm (.row b (X.c.Arrays.flatMap (tabA m bk)) :: .box X.mb (m.rbox X err) :: .row X.fb (m.flags.map bav) :: .row X.rb (m.regs.map iav) :: X.c.Arrays.map (hasRow m bk)) := by
  have e : m.rah X bk err = (.box X.mb (m.rbox X err) :: .row X.fb (m.flags.map bav) :: .row X.rb (m.regs.map iav) :: X.c.Arrays.map (hasRow m bk)) ++ [.row b (X.c.Arrays.flatMap (tabA m bk))] := by
    simp only [MS.rah, arrRow, hb]; rfl
  rw [e]
  exact List.perm_append_singleton _ _
theorem perm_back {x y : Own} {L : AH} : (x :: y :: L).Perm (x :: (L ++ [y])) := (List.perm_append_singleton y L).symm.cons x
theorem erase_perm {M : AH} {j : Nat} {z : Own} (hz : M[j]? = some z) : M.Perm (z :: M.eraseIdx j) := by
  obtain ⟨h1, _⟩ := mem_split hz
  rw [List.eraseIdx_eq_take_drop_succ]
  conv => lhs; rw [h1]
  exact List.perm_middle
theorem front2 {p q r y z : Own} {M : AH} {j : Nat} (hz : M[j]? = some z) : (y :: p :: q :: r :: M).Perm (y :: z :: p :: q :: r :: M.eraseIdx j) := by
  refine List.Perm.cons y ?_
  refine ((((erase_perm hz).cons r).cons q).cons p).trans ?_
  have e3 : (p :: q :: r :: z :: M.eraseIdx j).Perm (p :: q :: z :: r :: M.eraseIdx j) := ((List.Perm.swap _ _ _).cons q).cons p
  have e2 : (p :: q :: z :: r :: M.eraseIdx j).Perm (p :: z :: q :: r :: M.eraseIdx j) := (List.Perm.swap _ _ _).cons p
  exact (e3.trans e2).trans (List.Perm.swap _ _ _)
theorem back2 {x p q r y z : Own} {M : AH} {j : Nat} (hz : M[j]? = some z) : (x :: y :: z :: p :: q :: r :: M.eraseIdx j).Perm (x :: p :: q :: r :: (M ++ [y])) :=
  (((front2 (y := y) hz).symm).cons x).trans perm_back
theorem pow_pos_len {n : Int} (hn : 1 ≤ n) {a : Nat} {l : Nat} (h : (l : Int) = n ^ a) : 0 < l := by
  have := Int.pow_pos (n := n) (m := a) (by omega)
  omega
theorem arr_11 (hX : RSt X F R sig) (hm : RFit X F R sig B m bk) (s : GStmt) (hs : Fit F R sig s) (hk : s.Kind = 11) {n : Int} (hA : arOf X.c.Arrays s.Name = some n) :
    Tri Tryz.prog 127 [.ref X.mb 0, s.st] (m.rah X bk 0) (APost X F R sig B (prim X.n s m)) := by
  have ha := hX.sg _ _ hA
  obtain ⟨hin, hlen, hle⟩ := hm.mf.sig _ _ ha
  simp only [RG.E] at hlen hle
  have hal := hX.al
  obtain ⟨j, a, b, f1, f2, f3, f4, f5⟩ := arr_find hX hA
  have hF := ref_find X.c.Arrays s.Name (by omega)
  have hF2 := ref_find X.c.Arrays s.From (by omega)
  rw [f1] at hF
  have hcell := tab_cell m bk f2
  have hAb : (X.A.map fun b => (⟨b, 0, none⟩ : Addr)) = some ⟨b, 0, none⟩ := by rw [f4]; rfl
  have htl := tab_len m bk X.c.Arrays
  rw [f3] at hcell
  have hres : prim X.n s m = { m with rels := upd m.rels s.Name (List.replicate (m.rels s.Name).length false) } := by simp [prim, hk]
  have hnew := fun nb => rah_new hX m bk 0 f4 f2 (List.replicate (m.rels a.Name).length false) (by simp) nb (m.rels a.Name).length
  have hfit := fun nb => hm.upd hX hA (List.replicate (m.rels s.Name).length false) (by simp) m.used hm.mf.used (nb, (m.rels s.Name).length) (by simp)
  simp only [List.map_replicate] at hnew
  rw [f3] at hnew
  rw [hres]
  obtain ⟨kd, sf, sg, sr, sn, snm, sfr, slit, sregs, sbody, sels⟩ := s
  simp only at *
  subst hk
  refine Tri.enter 143 Tryz.func127 rfl rfl rfl rfl fun Fr w0 => ?_
  repeat' (first | (refine AW.r 0 ?_ <;> (first | refine AL.d (AOp.box_ro (v := .st [.int .i64 11, .int .i64 sf, .int .i64 sg, .int .i64 sr, .int .i64 sn, .str snm, .str sfr, slit.av, ints sregs, .sl (sbody.map GStmt.av), .sl (sels.map GStmt.av)]) rfl rfl) ?_ | refine AL.d (AOp.box_ro rfl rfl) ?_) <;> refine AL.nil ?_) | (refine AW.dq 1 ?_ <;> refine AQ.es 2 ?_ <;> (first | refine AQ.p rfl AOp.fa ?_ | refine AQ.p rfl (AOp.fr 0) ?_) <;> (first | refine AQ.p rfl AOp.fa ?_ | refine AQ.p rfl (AOp.fr 2) ?_) <;> (first | refine AQ.p rfl AOp.la ?_ | refine AQ.p rfl (AOp.ll 0) ?_) <;> (first | refine AQ.p rfl AOp.fa ?_ | refine AQ.p rfl (AOp.fr 5) ?_) <;> (first | refine AQ.p rfl AOp.la ?_ | refine AQ.p rfl (AOp.ll 0) ?_) <;> (first | refine AQ.p rfl (AOp.call rfl rfl (hF.pure _)) ?_ | refine AQ.p rfl (AOp.call rfl rfl (hF2.pure _)) ?_) <;> refine AQ.es 2 ?_ <;> (first | refine AQ.p rfl AOp.fa ?_ | refine AQ.p rfl (AOp.fr 0) ?_) <;> (first | refine AQ.p rfl AOp.fa ?_ | refine AQ.p rfl (AOp.fr 2) ?_) <;> (first | refine AQ.p rfl AOp.la ?_ | refine AQ.p rfl (AOp.ll 0) ?_) <;> (first | refine AQ.p rfl AOp.fa ?_ | refine AQ.p rfl (AOp.fr 6) ?_) <;> (first | refine AQ.p rfl AOp.la ?_ | refine AQ.p rfl (AOp.ll 0) ?_) <;> (first | refine AQ.p rfl (AOp.call rfl rfl (hF.pure _)) ?_ | refine AQ.p rfl (AOp.call rfl rfl (hF2.pure _)) ?_) <;> refine AQ.es 2 ?_ <;> refine AQ.nil ?_) | (refine AW.r 2 ?_ <;> (first | refine AL.d AOp.fa ?_ | refine AL.d (AOp.fr 0) ?_) <;> (first | refine AL.d AOp.la ?_ | refine AL.d (AOp.ll 0) ?_) <;> refine AL.nil ?_) | refine AW.re 3 2 ?_ | refine AW.re 5 2 ?_ | refine AW.jt ?_ | refine AW.jf ?_ | refine AW.jj (fun hb => ?_) (fun hb => ?_) | refine AW.go ?_ | fail)
  refine AW.perm (rah_front m bk 0 f4) ?_
  repeat' (first | (refine AW.ex 6 [true] [14, 17] ?_ <;> refine AQE.e ?_ <;> refine AQE.e ?_ <;> (first | refine AQE.p rfl AOp.fa ?_ | refine AQE.p rfl (AOp.fr 7) ?_) <;> (first | refine AQE.p rfl (AOp.load_cell 0 rfl rfl hcell rfl (by kernel_rfl)) ?_ | refine AQE.pe rfl (AOp.load_cell 0 rfl rfl hcell rfl (by kernel_rfl)) ?_ | refine AQE.p rfl AOp.la ?_ | refine AQE.p rfl (AOp.ll 0) ?_ | refine AQE.pe rfl (AOp.ll 0) ?_) <;> refine AQE.e ?_ <;> refine AQE.e ?_ <;> refine AQE.e ?_ <;> (first | refine AQE.p rfl AOp.fa ?_ | refine AQE.p rfl (AOp.fr 7) ?_) <;> (first | refine AQE.p rfl (AOp.load_cell 0 rfl rfl hcell rfl (by kernel_rfl)) ?_ | refine AQE.pe rfl (AOp.load_cell 0 rfl rfl hcell rfl (by kernel_rfl)) ?_ | refine AQE.p rfl AOp.la ?_ | refine AQE.p rfl (AOp.ll 0) ?_ | refine AQE.pe rfl (AOp.ll 0) ?_) <;> refine AQE.e ?_ <;> refine AQE.p rfl (AOp.index_val 3 rfl hAb rfl (by omega) (by omega) (by kernel_rfl)) ?_ <;> (first | refine AQE.p rfl AOp.fa ?_ | refine AQE.p rfl (AOp.fr 2) ?_) <;> (first | refine AQE.p rfl (AOp.load_cell 0 rfl rfl hcell rfl (by kernel_rfl)) ?_ | refine AQE.pe rfl (AOp.load_cell 0 rfl rfl hcell rfl (by kernel_rfl)) ?_ | refine AQE.p rfl AOp.la ?_ | refine AQE.p rfl (AOp.ll 0) ?_ | refine AQE.pe rfl (AOp.ll 0) ?_) <;> refine AQE.p rfl AOp.ln ?_ <;> refine AQE.hl ?_ <;> refine AQE.p rfl (AOp.index_val 3 rfl hAb rfl (by omega) (by omega) (by kernel_rfl)) ?_ <;> (first | refine AQE.p rfl AOp.fa ?_ | refine AQE.p rfl (AOp.fr 2) ?_) <;> refine AQE.hl ?_ <;> refine AQE.nil ?_ <;> refine AX.o (n := 1) 14 ?_ <;> refine AXO.makeSlice (k := (m.rels snm).length) (e := 4) (c := .bool false) (z := .bool false) (bytes := 1) rfl rfl (by kernel_rfl) rfl (by omega) (by omega) fun nb => ?_ <;> try dsimp only [List.set_cons_succ, List.set_cons_zero, List.getD_cons_succ, List.getD_cons_zero] <;> refine AX.o (n := 0) 17 ?_ <;> (first | (refine AXO.store_cell 1 rfl rfl rfl (by rw [htl]; simp; omega) rfl rfl (by kernel_rfl) fun _ => ?_) | refine AXO.sl 0 fun _ => ?_) <;> try dsimp only [List.set_cons_succ, List.set_cons_zero, List.getD_cons_succ, List.getD_cons_zero] <;> refine AX.done_keep [0, 1, 3, 4, 5, 6, 7, 8, 9, 10, 11, 12, 13, 14, 15, 16, 17, 18, 19, 20, 21, 22, 23, 24, 25, 26, 27, 28, 29, 30, 31, 32, 33, 34, 35, 36, 37, 38, 39, 40, 41, 42, 43, 44, 45, 46, 47, 48, 49, 67, 68, 69, 70, 72, 73, 74, 75, 76, 77, 78, 79, 80, 81, 82, 83, 84, 85, 86, 87, 88, 89, 90, 91, 92, 93, 94, 95, 96, 97, 98, 99, 100, 101, 102, 103, 104, 105, 106, 107, 108, 109, 110, 111, 112, 113, 114, 115, 116, 117, 118, 119, 120, 121, 122, 123, 124, 125, 126, 127, 128, 129, 130, 131, 132, 133, 134, 135, 136, 137, 138, 139, 140, 141, 142] ?_) | refine AW.jt ?_ | refine AW.jf ?_ | refine AW.jj (fun hb => ?_) (fun hb => ?_) | refine AW.go ?_ | fail)
  refine AW.perm perm_back ?_
  refine AW.swap (j := j) (by simpa using f5) ?_
  exact AW.donev rfl ⟨_, hfit nb, hnew nb, rfl⟩
theorem arr_13 (hX : RSt X F R sig) (hm : RFit X F R sig B m bk) (s : GStmt) (hs : Fit F R sig s) (hk : s.Kind = 13) {n n2 : Int} (hA : arOf X.c.Arrays s.Name = some n) (hA2 : arOf X.c.Arrays s.From = some n2) :
    Tri Tryz.prog 127 [.ref X.mb 0, s.st] (m.rah X bk 0) (APost X F R sig B (prim X.n s m)) := by
  have ha := hX.sg _ _ hA
  have ha2 := hX.sg _ _ hA2
  have hfr := hs.frm (by rw [hk]; rfl)
  obtain ⟨hin, hlen, hle⟩ := hm.mf.sig _ _ ha
  obtain ⟨hin2, hlen2, hle2⟩ := hm.mf.sig _ _ ha2
  rw [ha, ha2] at hfr
  have hnn : n2.toNat = n.toNat := Option.some.inj hfr
  simp only [RG.E] at hlen hle hlen2 hle2
  have hn1 := hm.mf.n.1
  simp only [RG.E] at hn1
  have hp2 := pow_pos_len hn1 hlen2
  rw [hnn] at hlen2
  have hll : (m.rels s.From).length = (m.rels s.Name).length := by omega
  have hal := hX.al
  obtain ⟨j, a, b, f1, f2, f3, f4, f5⟩ := arr_find hX hA
  obtain ⟨j2, a2, b', g1, g2, g3, g4, g5⟩ := arr_find hX hA2
  have hF := ref_find X.c.Arrays s.Name (by omega)
  have hF2 := ref_find X.c.Arrays s.From (by omega)
  rw [f1] at hF
  rw [g1] at hF2
  have hcell := tab_cell m bk f2
  have hcell2 := tab_cell m bk g2
  have hAb : (X.A.map fun b => (⟨b, 0, none⟩ : Addr)) = some ⟨b, 0, none⟩ := by rw [f4]; rfl
  have htl := tab_len m bk X.c.Arrays
  rw [f3] at hcell
  rw [g3] at hcell2
  have hres : prim X.n s m = { m with rels := upd m.rels s.Name (m.rels s.From) } := by simp [prim, hk]
  have hz : (X.c.Arrays.map (hasRow m bk))[j2]? = some (.row (bk s.From).1 ((m.rels s.From).map bav)) := by rw [List.getElem?_map, g2, Option.map_some]; unfold hasRow; rw [g3]
  have hnew := fun nb nc => rah_new hX m bk 0 f4 f2 (m.rels s.From) (by rw [f3]; exact hll) nb nc
  have hfit := fun nb (nc : Nat) (h : (m.rels s.From).length ≤ nc) => hm.upd hX hA (m.rels s.From) hll m.used hm.mf.used (nb, nc) h
  rw [f3] at hnew
  rw [hres]
  rw [← hll] at hnew
  obtain ⟨kd, sf, sg, sr, sn, snm, sfr, slit, sregs, sbody, sels⟩ := s
  simp only at *
  subst hk
  refine Tri.enter 143 Tryz.func127 rfl rfl rfl rfl fun Fr w0 => ?_
  repeat' (first | (refine AW.r 0 ?_ <;> (first | refine AL.d (AOp.box_ro (v := .st [.int .i64 13, .int .i64 sf, .int .i64 sg, .int .i64 sr, .int .i64 sn, .str snm, .str sfr, slit.av, ints sregs, .sl (sbody.map GStmt.av), .sl (sels.map GStmt.av)]) rfl rfl) ?_ | refine AL.d (AOp.box_ro rfl rfl) ?_) <;> refine AL.nil ?_) | (refine AW.dq 1 ?_ <;> refine AQ.es 2 ?_ <;> (first | refine AQ.p rfl AOp.fa ?_ | refine AQ.p rfl (AOp.fr 0) ?_) <;> (first | refine AQ.p rfl AOp.fa ?_ | refine AQ.p rfl (AOp.fr 2) ?_) <;> (first | refine AQ.p rfl AOp.la ?_ | refine AQ.p rfl (AOp.ll 0) ?_) <;> (first | refine AQ.p rfl AOp.fa ?_ | refine AQ.p rfl (AOp.fr 5) ?_) <;> (first | refine AQ.p rfl AOp.la ?_ | refine AQ.p rfl (AOp.ll 0) ?_) <;> (first | refine AQ.p rfl (AOp.call rfl rfl (hF.pure _)) ?_ | refine AQ.p rfl (AOp.call rfl rfl (hF2.pure _)) ?_) <;> refine AQ.es 2 ?_ <;> (first | refine AQ.p rfl AOp.fa ?_ | refine AQ.p rfl (AOp.fr 0) ?_) <;> (first | refine AQ.p rfl AOp.fa ?_ | refine AQ.p rfl (AOp.fr 2) ?_) <;> (first | refine AQ.p rfl AOp.la ?_ | refine AQ.p rfl (AOp.ll 0) ?_) <;> (first | refine AQ.p rfl AOp.fa ?_ | refine AQ.p rfl (AOp.fr 6) ?_) <;> (first | refine AQ.p rfl AOp.la ?_ | refine AQ.p rfl (AOp.ll 0) ?_) <;> (first | refine AQ.p rfl (AOp.call rfl rfl (hF.pure _)) ?_ | refine AQ.p rfl (AOp.call rfl rfl (hF2.pure _)) ?_) <;> refine AQ.es 2 ?_ <;> refine AQ.nil ?_) | (refine AW.r 2 ?_ <;> (first | refine AL.d AOp.fa ?_ | refine AL.d (AOp.fr 0) ?_) <;> (first | refine AL.d AOp.la ?_ | refine AL.d (AOp.ll 0) ?_) <;> refine AL.nil ?_) | refine AW.re 3 2 ?_ | refine AW.re 5 2 ?_ | refine AW.re 7 2 ?_ | refine AW.re 9 2 ?_ | refine AW.jt ?_ | refine AW.jf ?_ | refine AW.jj (fun hb => ?_) (fun hb => ?_) | refine AW.go ?_ | fail)
  refine AW.perm (rah_front m bk 0 f4) ?_
  refine AW.perm (front2 hz) ?_
  repeat' (first | (refine AW.ex 10 [true, true] [5, 13, 14, 17] ?_ <;> refine AQE.e ?_ <;> refine AQE.e ?_ <;> (first | refine AQE.p rfl AOp.fa ?_ | refine AQE.p rfl (AOp.fr 7) ?_) <;> (first | refine AQE.p rfl AOp.la ?_ | refine AQE.p rfl (AOp.ll 0) ?_ | refine AQE.pe rfl (AOp.ll 0) ?_) <;> refine AQE.e ?_ <;> refine AQE.hl ?_ <;> refine AQE.e ?_ <;> refine AQE.e ?_ <;> (first | refine AQE.p rfl AOp.fa ?_ | refine AQE.p rfl (AOp.fr 7) ?_) <;> (first | refine AQE.p rfl AOp.la ?_ | refine AQE.p rfl (AOp.ll 0) ?_ | refine AQE.pe rfl (AOp.ll 0) ?_) <;> refine AQE.e ?_ <;> refine AQE.p rfl (AOp.index_val 3 rfl hAb rfl (by omega) (by omega) (by kernel_rfl)) ?_ <;> (first | refine AQE.p rfl AOp.fa ?_ | refine AQE.p rfl (AOp.fr 2) ?_) <;> refine AQE.hl ?_ <;> refine AQE.hl ?_ <;> refine AQE.p rfl (AOp.index_val 3 rfl hAb rfl (by omega) (by omega) (by kernel_rfl)) ?_ <;> (first | refine AQE.p rfl AOp.fa ?_ | refine AQE.p rfl (AOp.fr 2) ?_) <;> refine AQE.hl ?_ <;> refine AQE.nil ?_) | refine AW.jt ?_ | refine AW.jf ?_ | refine AW.jj (fun hb => ?_) (fun hb => ?_) | refine AW.go ?_ | fail)
  refine AX.two (n := 3) 5 13 rfl ?_ ?_
  · refine AXS.at rfl rfl (AXO.lit_own (e := 4) (sz := 1) (by kernel_rfl) rfl rfl rfl P_nil (by decide) fun b0 => ?_) rfl
    refine AX.o (n := 2) 13 ?_
    refine AXO.d (AOp.load_cell 1 rfl rfl hcell2 rfl (by kernel_rfl)) ?_
    refine AX.o (n := 1) 14 ?_
    refine AXO.append_clone (i := 0) (j := 2) (e := 4) (bytes := 1) rfl rfl rfl rfl (by simp) (by omega) (by kernel_rfl) (by kernel_rfl) (by omega) (by omega) fun nb nc hnc => ?_
    refine AX.o (n := 0) 17 ?_
    refine AXO.store_cell 1 rfl rfl rfl (by rw [htl]; simp; omega) rfl rfl (by kernel_rfl) fun _ => ?_
    refine AX.done_keep [] ?_
    refine AW.perm (back2 hz) ?_
    refine AW.swap (j := j) (by simpa using f5) ?_
    repeat' (first | refine AW.jt ?_ | refine AW.jf ?_ | refine AW.jj (fun hb => ?_) (fun hb => ?_) | refine AW.go ?_ | fail)
    exact AW.donev rfl ⟨_, hfit nb nc hnc, hnew nb nc, rfl⟩
  · refine AXS.at rfl rfl (AXO.d (AOp.load_cell 0 rfl rfl hcell2 rfl (by kernel_rfl)) ?_) rfl
    refine AX.o (n := 2) 5 ?_
    refine AXO.lit_own (e := 4) (sz := 1) (by kernel_rfl) rfl rfl rfl P_nil (by decide) fun b0 => ?_
    refine AX.o (n := 1) 14 ?_
    refine AXO.append_clone (i := 0) (j := 2) (e := 4) (bytes := 1) rfl rfl rfl rfl (by simp) (by omega) (by kernel_rfl) (by kernel_rfl) (by omega) (by omega) fun nb nc hnc => ?_
    refine AX.o (n := 0) 17 ?_
    refine AXO.store_cell 1 rfl rfl rfl (by rw [htl]; simp; omega) rfl rfl (by kernel_rfl) fun _ => ?_
    refine AX.done_keep [] ?_
    refine AW.perm (back2 hz) ?_
    refine AW.swap (j := j) (by simpa using f5) ?_
    repeat' (first | refine AW.jt ?_ | refine AW.jf ?_ | refine AW.jj (fun hb => ?_) (fun hb => ?_) | refine AW.go ?_ | fail)
    exact AW.donev rfl ⟨_, hfit nb nc hnc, hnew nb nc, rfl⟩
end Go.Proofs.YtdedkpfbfklgbaaGreat
