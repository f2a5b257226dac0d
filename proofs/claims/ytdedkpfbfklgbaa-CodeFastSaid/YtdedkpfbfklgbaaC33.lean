/- What a checked program is: the plain side. -/
import Derived.Test.YtdedkpfbfklgbaaC26
namespace Go.Proofs.Ytdedkpfbfklgbaa
open Go.RowKit Go.SX
set_option maxRecDepth 100000
set_option maxHeartbeats 4000000
set_option linter.unusedVariables false
set_option linter.unusedSimpArgs false

def Inv (st : Chk) : Prop := (st.S.map (·.1)).Nodup ∧ (∀ k ∈ st.S.map (·.1), lookA st.A k = none) ∧ (st.bad = false → ∀ p ∈ st.S, 0 ≤ p.2 ∧ p.2 ≤ 12)
structure Ext (a b : Chk) : Prop where
  c : b.c = a.c
  A : b.A = a.A
  bad : b.bad = false → a.bad = false
  inv : Inv a → Inv b
  look : b.bad = false → ∀ k n, lookA a.S k = some n → lookA b.S k = some n
theorem Ext.refl (a : Chk) : Ext a a := ⟨rfl, rfl, id, id, fun _ _ _ h => h⟩
theorem Ext.trans {a b c : Chk} (h : Ext a b) (k : Ext b c) : Ext a c := ⟨k.c.trans h.c, k.A.trans h.A, fun e => h.bad (k.bad e), fun e => k.inv (h.inv e), fun e x n hx => k.look e x n (h.look (k.bad e) x n hx)⟩
theorem ext_need (st : Chk) (x : Bool) : Ext st (st.need x) := ⟨rfl, rfl, fun h => by simp [Chk.need] at h; exact h.1, fun ⟨h1, h2, h3⟩ => ⟨h1, h2, fun h => h3 (by simp [Chk.need] at h; exact h.1)⟩, fun _ _ _ h => h⟩
theorem need_ok {st : Chk} {x : Bool} (h : (st.need x).bad = false) : x = true := by simp [Chk.need] at h; exact h.2
theorem ext_flag (st : Chk) (f : Int) : Ext st (st.flag f) := ext_need _ _
theorem ext_regs : ∀ (l : List Int) (st : Chk), Ext st (st.regs l)
  | [], st => Ext.refl st
  | r :: l, st => (ext_need st _).trans (ext_regs l _)
theorem regs_ok : ∀ (l : List Int) (st : Chk), (st.regs l).bad = false → ∀ x ∈ l, 0 ≤ x ∧ x < st.c.Regs
  | [], st, _, x, h => by cases h
  | r :: l, st, hb, x, h => by
    rw [Chk.regs] at hb
    have h1 := need_ok ((ext_regs l _).bad hb)
    simp only [Bool.and_eq_true, decide_eq_true_eq] at h1
    rcases List.mem_cons.1 h with rfl | h
    · exact h1
    · exact regs_ok l _ hb x h
theorem keys_setA {A : List (ByteArray × Int)} {k : ByteArray} {v : Int} : ∀ x, x ∈ (setA A k v).map (·.1) ↔ x = k ∨ x ∈ A.map (·.1) := by
  induction A with
  | nil => intro x; simp [setA]
  | cons p A ih =>
    obtain ⟨k', w⟩ := p
    intro x
    rw [setA]
    by_cases h : k = k'
    · subst h; simp
    · rw [if_neg h]
      simp only [List.map_cons, List.mem_cons, ih]
      constructor
      · rintro (h | h | h) <;> simp [h]
      · rintro (h | h | h) <;> simp [h]
theorem nodup_setA {A : List (ByteArray × Int)} {k : ByteArray} {v : Int} (h : (A.map (·.1)).Nodup) : ((setA A k v).map (·.1)).Nodup := by
  induction A with
  | nil => simp [setA]
  | cons p A ih =>
    obtain ⟨k', w⟩ := p
    simp only [List.map_cons, List.nodup_cons] at h
    rw [setA]
    by_cases e : k = k'
    · subst e; simpa using h
    · rw [if_neg e]
      simp only [List.map_cons, List.nodup_cons]
      refine ⟨fun hm => ?_, ih h.2⟩
      rcases (keys_setA _).1 hm with h1 | h1
      · exact e h1.symm
      · exact h.1 h1
theorem mem_setA {A : List (ByteArray × Int)} {k : ByteArray} {v : Int} : ∀ p ∈ setA A k v, p = (k, v) ∨ p ∈ A := by
  induction A with
  | nil => intro p h; simpa [setA] using h
  | cons q A ih =>
    obtain ⟨k', w⟩ := q
    intro p h
    rw [setA] at h
    by_cases e : k = k'
    · rw [if_pos e] at h
      rcases List.mem_cons.1 h with h | h
      · exact .inl h
      · exact .inr (List.mem_cons_of_mem _ h)
    · rw [if_neg e] at h
      rcases List.mem_cons.1 h with h | h
      · exact .inr (by simp [h])
      · rcases ih p h with h | h
        · exact .inl h
        · exact .inr (List.mem_cons_of_mem _ h)
theorem look_setA {A : List (ByteArray × Int)} {k : ByteArray} {v : Int} (x : ByteArray) : lookA (setA A k v) x = if x = k then some v else lookA A x := by
  induction A with
  | nil => simp only [setA, lookA]
  | cons q A ih =>
    obtain ⟨k', w⟩ := q
    rw [setA]
    by_cases e : k = k'
    · subst e
      simp only [if_pos, lookA]
      by_cases h : x = k <;> simp [h]
    · rw [if_neg e]
      simp only [lookA, ih]
      by_cases h : x = k
      · subst h; simp [e]
      · simp [h]
def sigS (A S : List (ByteArray × Int)) (k : ByteArray) : Option Nat := match lookA A k with | some a => some a.toNat | none => (lookA S k).map Int.toNat
/-- What a literal is checked for. -/
theorem lit_ext (st : Chk) (l : GLit) : Ext st (st.lit l) := by
  unfold Chk.lit
  simp only
  split
  · exact (ext_regs _ _).trans (ext_need _ _)
  · have h1 := (ext_regs l.At st).trans (ext_need (st.regs l.At) (decide (l.Kind = 0) && nameB l.Name && decide (l.At.length ≤ 12)))
    generalize hs2 : (st.regs l.At).need (decide (l.Kind = 0) && nameB l.Name && decide (l.At.length ≤ 12)) = s2 at h1 ⊢
    split
    · exact h1.trans (ext_need _ _)
    · rename_i hA
      have h2 := h1.trans (ext_need s2 (match lookA s2.S l.Name with | none => true | some n => decide (n = l.At.length)))
      refine ⟨h2.c, h2.A, h2.bad, fun hi => ?_, fun hb k n hk => ?_⟩
      · obtain ⟨g1, g2, g3⟩ := h2.inv hi
        refine ⟨nodup_setA g1, fun k hk => ?_, fun hb p hp => ?_⟩
        · rcases (keys_setA _).1 hk with h | h
          · subst h; exact hA
          · exact g2 k h
        · rcases mem_setA p hp with h | h
          · subst h
            have h3 : s2.bad = false := (ext_need s2 _).bad hb
            rw [← hs2] at h3
            have h4 := need_ok h3
            simp only [Bool.and_eq_true, decide_eq_true_eq] at h4
            exact ⟨by show (0 : Int) ≤ (l.At.length : Int); omega, by show (l.At.length : Int) ≤ 12; omega⟩
          · exact g3 hb p h
      · have h3 := h2.look hb k n hk
        show lookA (setA _ _ _) k = _
        rw [look_setA]
        by_cases e : k = l.Name
        · rw [if_pos e]
          subst e
          have h4 := need_ok hb
          have h5 : lookA s2.S l.Name = some n := h3
          rw [h5] at h4
          simp only [decide_eq_true_eq] at h4
          rw [h4]
        · rw [if_neg e]; exact h3
theorem lit_ok (st : Chk) (l : GLit) (hb : (st.lit l).bad = false) : (∀ x ∈ l.At, 0 ≤ x ∧ x < st.c.Regs) ∧ (if l.Kind = 1 ∨ l.Kind = 2 then l.At.length = 2 else l.Kind = 0 ∧ sigS (st.lit l).A (st.lit l).S l.Name = some l.At.length) := by
  unfold Chk.lit at hb ⊢
  simp only at hb ⊢
  by_cases hk : l.Kind = 1 ∨ l.Kind = 2
  · simp only [if_pos hk] at hb ⊢
    have h1 := need_ok hb
    simp only [Bool.and_eq_true, decide_eq_true_eq] at h1
    exact ⟨regs_ok _ _ ((ext_need _ _).bad hb), h1.2⟩
  · simp only [if_neg hk] at hb ⊢
    generalize hs2 : (st.regs l.At).need (decide (l.Kind = 0) && nameB l.Name && decide (l.At.length ≤ 12)) = s2 at hb ⊢
    have key : s2.bad = false → (∀ x ∈ l.At, 0 ≤ x ∧ x < st.c.Regs) ∧ l.Kind = 0 := by
      intro h
      rw [← hs2] at h
      have h4 := need_ok h
      simp only [Bool.and_eq_true, decide_eq_true_eq] at h4
      exact ⟨regs_ok _ _ ((ext_need _ _).bad h), h4.1.1⟩
    cases hA : lookA s2.A l.Name with
    | some n =>
      rw [hA] at hb
      simp only at hb ⊢
      have h1 := need_ok hb
      simp only [decide_eq_true_eq] at h1
      have h2 := key ((ext_need _ _).bad hb)
      refine ⟨h2.1, h2.2, ?_⟩
      have : lookA (s2.need (decide (n = ↑l.At.length))).A l.Name = some n := hA
      rw [sigS, this, h1]; rfl
    | none =>
      rw [hA] at hb
      simp only at hb ⊢
      have h2 := key ((ext_need s2 _).bad hb)
      refine ⟨h2.1, h2.2, ?_⟩
      show (match lookA s2.A l.Name with | some a => some a.toNat | none => (lookA (setA s2.S l.Name l.At.length) l.Name).map Int.toNat) = _
      rw [hA]
      simp only
      rw [look_setA, if_pos rfl]; rfl
theorem ext_ite {a b : Chk} (c : Prop) [Decidable c] {d : Chk} (h1 : Ext a b) (h2 : Ext a d) : Ext a (if c then b else d) := by split <;> assumption
theorem use_name {k : Int} (hk : 0 ≤ k ∧ k < 15) (h : (useOf k).regs = true ∨ (useOf k).frm = true) : (useOf k).name = true := by
  have : k = 0 ∨ k = 1 ∨ k = 2 ∨ k = 3 ∨ k = 4 ∨ k = 5 ∨ k = 6 ∨ k = 7 ∨ k = 8 ∨ k = 9 ∨ k = 10 ∨ k = 11 ∨ k = 12 ∨ k = 13 ∨ k = 14 := by omega
  rcases this with rfl | rfl | rfl | rfl | rfl | rfl | rfl | rfl | rfl | rfl | rfl | rfl | rfl | rfl | rfl <;> first | rfl | (rcases h with h | h <;> cases h)
theorem flds_ok (st : Chk) (s : GStmt) : Ext st (st.flds s) ∧ ((st.flds s).bad = false → 0 ≤ s.Kind ∧ s.Kind < 15 → Fit st.c.Flags.toNat st.c.Regs.toNat (sigS (st.flds s).A (st.flds s).S) s) := by
  unfold Chk.flds
  simp only
  obtain ⟨u, hu⟩ : ∃ u, u = useOf s.Kind := ⟨_, rfl⟩
  rw [← hu]
  obtain ⟨a1, e1⟩ : ∃ x, x = st.need (zeroB s) := ⟨_, rfl⟩
  rw [← e1]
  obtain ⟨a2, e2⟩ : ∃ x, x = (if u.f = true then a1.flag s.F else a1) := ⟨_, rfl⟩
  rw [← e2]
  obtain ⟨a3, e3⟩ : ∃ x, x = (if (u.g && decide (s.Kind ≠ 4)) = true then a2.flag s.G else a2) := ⟨_, rfl⟩
  rw [← e3]
  obtain ⟨a4, e4⟩ : ∃ x, x = (if s.Kind = 4 then a3.need (decide (s.G = 0) || decide (s.G = 1)) else a3) := ⟨_, rfl⟩
  rw [← e4]
  obtain ⟨a5, e5⟩ : ∃ x, x = (if u.r = true then a4.regs [s.R] else a4) := ⟨_, rfl⟩
  rw [← e5]
  obtain ⟨a6, e6⟩ : ∃ x, x = (a5.need (decide (0 ≤ s.N) && decide (s.N ≤ 12))) := ⟨_, rfl⟩
  rw [← e6]
  obtain ⟨a7, e7⟩ : ∃ x, x = (if u.lit = true then a6.lit s.Lit else a6) := ⟨_, rfl⟩
  rw [← e7]
  obtain ⟨a8, e8⟩ : ∃ x, x = (a7.regs s.Regs) := ⟨_, rfl⟩
  rw [← e8]
  obtain ⟨a9, e9⟩ : ∃ x, x = a8.need (!u.name || (lookA a8.A s.Name).isSome) := ⟨_, rfl⟩
  rw [← e9]
  obtain ⟨a10, e10⟩ : ∃ x, x = a9.need (!u.regs || decide ((lookA a8.A s.Name).getD 0 = s.Regs.length)) := ⟨_, rfl⟩
  rw [← e10]
  obtain ⟨a11, e11⟩ : ∃ x, x = (if u.frm = true then a10.need ((lookA a10.A s.From).isSome && decide ((lookA a8.A s.Name).getD 0 = (lookA a10.A s.From).getD 0)) else a10) := ⟨_, rfl⟩
  rw [← e11]
  have x1 : Ext st a1 := by rw [e1]; exact ext_need _ _
  have x2 : Ext a1 a2 := by rw [e2]; exact ext_ite _ (ext_flag _ _) (Ext.refl _)
  have x3 : Ext a2 a3 := by rw [e3]; exact ext_ite _ (ext_flag _ _) (Ext.refl _)
  have x4 : Ext a3 a4 := by rw [e4]; exact ext_ite _ (ext_need _ _) (Ext.refl _)
  have x5 : Ext a4 a5 := by rw [e5]; exact ext_ite _ (ext_regs _ _) (Ext.refl _)
  have x6 : Ext a5 a6 := by rw [e6]; exact ext_need _ _
  have x7 : Ext a6 a7 := by rw [e7]; exact ext_ite _ (lit_ext _ _) (Ext.refl _)
  have x8 : Ext a7 a8 := by rw [e8]; exact ext_regs _ _
  have x9 : Ext a8 a9 := by rw [e9]; exact ext_need _ _
  have x10 : Ext a9 a10 := by rw [e10]; exact ext_need _ _
  have x11 : Ext a10 a11 := by rw [e11]; exact ext_ite _ (ext_need _ _) (Ext.refl _)
  have y2 := x1.trans x2
  have y3 := y2.trans x3
  have y4 := y3.trans x4
  have y5 := y4.trans x5
  have y6 := y5.trans x6
  have y7 := y6.trans x7
  have y8 := y7.trans x8
  have y9 := y8.trans x9
  have y10 := y9.trans x10
  refine ⟨y10.trans x11, fun hb hk => ?_⟩
  have b10 := x11.bad hb
  have b9 := x10.bad b10
  have b8 := x9.bad b9
  have b7 := x8.bad b8
  have b6 := x7.bad b7
  have b5 := x6.bad b6
  have b4 := x5.bad b5
  have b3 := x4.bad b4
  have b2 := x3.bad b3
  have b1 := x2.bad b2
  have cF : ∀ {a : Chk}, a.c = st.c → a.c.Flags = st.c.Flags := fun h => by rw [h]
  have cR : ∀ {a : Chk}, a.c = st.c → a.c.Regs = st.c.Regs := fun h => by rw [h]
  have hA8 : a11.A = a8.A := by rw [x11.A, x10.A, x9.A]
  have hA10 : a11.A = a10.A := x11.A
  rw [hu] at e2 e3 e5 e7 e9 e10 e11
  exact {
    kind := hk
    f := fun h => by
      rw [if_pos h] at e2
      rw [e2] at b2
      have := need_ok b2
      simp only [Bool.and_eq_true, decide_eq_true_eq] at this
      rw [cF x1.c] at this; omega
    g := fun h h4 => by
      rw [if_pos (by simp [h, h4])] at e3
      rw [e3] at b3
      have := need_ok b3
      simp only [Bool.and_eq_true, decide_eq_true_eq] at this
      rw [cF y2.c] at this; omega
    r := fun h => by
      rw [if_pos h] at e5
      rw [e5] at b5
      have := regs_ok _ _ b5 s.R (by simp)
      rw [cR y4.c] at this; omega
    n := by
      rw [e6] at b6
      have := need_ok b6
      simpa using this
    name := fun h => by
      rw [e9] at b9
      have := need_ok b9
      rw [h] at this
      simp only [Bool.not_true, Bool.false_or, Option.isSome_iff_exists] at this
      obtain ⟨n, hn⟩ := this
      exact ⟨n.toNat, by rw [sigS, hA8, hn]⟩
    store := fun h => by
      have hn : (useOf s.Kind).name = true := by
        exact use_name hk (.inl h)
      rw [e9] at b9
      rw [e10] at b10
      have h1 := need_ok b9
      have h2 := need_ok b10
      rw [hn] at h1
      rw [h] at h2
      simp only [Bool.not_true, Bool.false_or, Option.isSome_iff_exists, decide_eq_true_eq] at h1 h2
      obtain ⟨n, hn⟩ := h1
      rw [hn] at h2
      simp only [Option.getD_some] at h2
      rw [sigS, hA8, hn, h2]; rfl
    regs := fun x hx => by
      rw [e8] at b8
      have := regs_ok _ _ b8 x hx
      rw [cR y7.c] at this; omega
    frm := fun h => by
      have hn : (useOf s.Kind).name = true := by
        exact use_name hk (.inr h)
      rw [if_pos h] at e11
      rw [e11] at hb
      rw [e9] at b9
      have h1 := need_ok b9
      have h2 := need_ok hb
      rw [hn] at h1
      simp only [Bool.not_true, Bool.false_or, Option.isSome_iff_exists, decide_eq_true_eq, Bool.and_eq_true] at h1 h2
      obtain ⟨n, hn⟩ := h1
      obtain ⟨⟨m, hm⟩, h3⟩ := h2
      rw [hn, hm] at h3
      simp only [Option.getD_some] at h3
      subst h3
      rw [sigS, sigS]
      have k1 : lookA a11.A s.From = some n := by rw [hA10]; exact hm
      have k2 : lookA a11.A s.Name = some n := by rw [hA8]; exact hn
      rw [k1, k2]
    lit := fun h => by
      rw [if_pos h] at e7
      rw [e7] at b7
      obtain ⟨h1, h2⟩ := lit_ok _ _ b7
      rw [cR y6.c] at h1
      refine ⟨fun x hx => by have := h1 x hx; omega, ?_⟩
      split
      · rename_i hk; rw [if_pos hk] at h2; exact h2
      · rename_i hk
        rw [if_neg hk] at h2
        refine ⟨h2.1, ?_⟩
        have x711 := (((x8.trans x9).trans x10).trans x11)
        rw [← e7] at h2
        have h3 := h2.2
        rw [sigS] at h3 ⊢
        rw [x711.A]
        cases hA : lookA a7.A s.Lit.Name with
        | some n => rw [hA] at h3; exact h3
        | none =>
          rw [hA] at h3
          simp only at h3 ⊢
          cases hS : lookA a7.S s.Lit.Name with
          | none => rw [hS] at h3; cases h3
          | some n =>
            rw [hS] at h3
            rw [x711.look hb _ _ hS]
            exact h3 }
end Go.Proofs.Ytdedkpfbfklgbaa
