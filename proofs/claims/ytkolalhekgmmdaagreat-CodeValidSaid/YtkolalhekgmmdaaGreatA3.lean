/- Contracts of the functions, part 3. -/
import Derived.Test.YtkolalhekgmmdaaGreatA2
import Derived.Test.YtkolalhekgmmdaaGreatA2
import Derived.Test.YtkolalhekgmmdaaGreatS2
import Derived.Test.YtkolalhekgmmdaaGreatS3
import Derived.Test.YtkolalhekgmmdaaGreatA1
namespace Go.Proofs.YtkolalhekgmmdaaGreat
open Go.RowKit Go.SX
set_option maxRecDepth 100000
set_option maxHeartbeats 4000000
set_option linter.unusedVariables false
set_option linter.unusedSimpArgs false
def resAH (r1 r2 r3 r4 : Nat) (b : Bool) (n g e : Int) : AH := [.box r1 (.bool b), .box r2 (.int .i64 n), .box r3 (.int .i64 g), .box r4 (.int .i64 e)]
theorem run_panic (r1 r2 r3 r4 : Nat) (b : Bool) (n g e : Int) (x : Int) : TriD Tryz.prog 31 [.ref r1 0, .ref r2 0, .ref r3 0, .ref r4 0] (resAH r1 r2 r3 r4 b n g e)
    (.panicking [{ v := .iface 90 (.int .i64 x), recovered := false }]) (fun u' h => u' = (recMode (.panicking [{ v := .iface 90 (.int .i64 x), recovered := false }])).2 ∧ h = resAH r1 r2 r3 r4 false 0 0 x) := by
  refine TriD.enterR 13 Tryz.func31 rfl rfl rfl rfl rfl rfl rfl rfl rfl fun Fr w0 => ?_
  (refine AL.d (AOp.assert_yes (v := .int .i64 x) rfl (by kernel_rfl) (fun S w => mk_int)) ?_) <;> (refine AL.e ?_) <;> (refine AL.e ?_) <;> (refine AL.e ?_) <;> (refine AL.e ?_) <;> (refine AL.e ?_) <;> (refine AL.nil ?_)
  repeat' (first | refine AW.re 1 1 ?_ | (refine xS 2 1 ?_; (first | refine AL.sl 0 ?_ | refine AL.sl 1 ?_ | refine AL.sl 2 ?_ | refine AL.sl 3 ?_) <;> (first | refine AL.sl 0 ?_ | refine AL.sl 1 ?_ | refine AL.sl 2 ?_ | refine AL.sl 3 ?_) <;> (first | refine AL.sl 0 ?_ | refine AL.sl 1 ?_ | refine AL.sl 2 ?_ | refine AL.sl 3 ?_) <;> (first | refine AL.sl 0 ?_ | refine AL.sl 1 ?_ | refine AL.sl 2 ?_ | refine AL.sl 3 ?_) <;> refine AL.nil ?_) | refine AW.jt ?_ | refine AW.jf ?_ | refine AW.jj (fun hb => ?_) (fun hb => ?_) | refine AW.go ?_ | fail)
  exact AW.donev rfl ⟨⟨_, rfl⟩, rfl⟩
theorem run_return (r1 r2 r3 r4 : Nat) (b : Bool) (n g e : Int) : TriD Tryz.prog 31 [.ref r1 0, .ref r2 0, .ref r3 0, .ref r4 0] (resAH r1 r2 r3 r4 b n g e)
    .returning (fun u' h => u' = .returning ∧ h = resAH r1 r2 r3 r4 b n g e) := by
  refine TriD.enterR 13 Tryz.func31 rfl rfl rfl rfl rfl rfl rfl rfl rfl fun Fr w0 => ?_
  (refine AL.d (AOp.assert_nil (z := .int .i64 0) (zv := .int .i64 0) rfl (by kernel_rfl) (by kernel_rfl) (fun S w => mk_int)) ?_) <;> (refine AL.e ?_) <;> (refine AL.e ?_) <;> (refine AL.e ?_) <;> (refine AL.e ?_) <;> (refine AL.e ?_) <;> (refine AL.nil ?_)
  repeat' (first | refine AW.re 1 1 ?_ | (refine xS 2 1 ?_; (first | refine AL.sl 0 ?_ | refine AL.sl 1 ?_ | refine AL.sl 2 ?_ | refine AL.sl 3 ?_) <;> (first | refine AL.sl 0 ?_ | refine AL.sl 1 ?_ | refine AL.sl 2 ?_ | refine AL.sl 3 ?_) <;> (first | refine AL.sl 0 ?_ | refine AL.sl 1 ?_ | refine AL.sl 2 ?_ | refine AL.sl 3 ?_) <;> (first | refine AL.sl 0 ?_ | refine AL.sl 1 ?_ | refine AL.sl 2 ?_ | refine AL.sl 3 ?_) <;> refine AL.nil ?_) | refine AW.jt ?_ | refine AW.jf ?_ | refine AW.jj (fun hb => ?_) (fun hb => ?_) | refine AW.go ?_ | fail)
  exact AW.donev rfl ⟨⟨_, rfl⟩, rfl⟩
def tabGo (n : Int) : List (List Int) → List Bool → List Bool
  | [], xs => xs
  | t :: ts, xs => tabGo n ts (xs.set (rankR n t).1.toNat true)
def tableR (s : GStr) (k : ByteArray) (ar : Int) : List Bool :=
  match s.Rels[(findI s k ar).toNat]? with
  | some r => tabGo s.Size r.Tuples (List.replicate (powerR s.Size r.Arity).1.toNat false)
  | none => []
def initR (s : GStr) (st : Chk) (k : ByteArray) : List Bool :=
  match lookA st.A k with
  | some a => List.replicate (powerR s.Size a).1.toNat false
  | none => match lookA st.S k with
    | some a => tableR s k a
    | none => []
def m0 (c : GCode) (s : GStr) : MS := ⟨List.replicate c.Flags.toNat false, List.replicate c.Regs.toNat 0, initR s (checkedP c), 0, 0⟩
structure RunOk (c : GCode) (s : GStr) (fuel : Int) : Prop where
  bad : (checkedP c).bad = false
  valid : validStr s = true
  found : ∀ p ∈ (checkedP c).S, 0 ≤ findI s p.1 p.2
  fuel : 0 ≤ fuel ∧ fuel ≤ 10000000
  size : ∀ a ∈ c.Arrays, (powerR s.Size a.Arity).2 = 0
inductive RunR (c : GCode) (s : GStr) (G : List Bool) (fuel : Int) : Bool → Int → Int → Int → Prop
  | form (h : (checkedP c).bad = true ∨ validStr s = false) : RunR c s G fuel false 0 0 1
  | name (h1 : (checkedP c).bad = false) (h2 : validStr s = true) (p : ByteArray × Int) (hp : p ∈ (checkedP c).S) (h : findI s p.1 p.2 < 0) : RunR c s G fuel false 0 0 4
  | arg (h1 : (checkedP c).bad = false) (h2 : validStr s = true) (h3 : ∀ p ∈ (checkedP c).S, 0 ≤ findI s p.1 p.2) (h : fuel < 0 ∨ fuel > 10000000) : RunR c s G fuel false 0 0 2
  | size (h1 : (checkedP c).bad = false) (h2 : validStr s = true) (h3 : ∀ p ∈ (checkedP c).S, 0 ≤ findI s p.1 p.2) (h4 : 0 ≤ fuel ∧ fuel ≤ 10000000) (a : GSym) (ha : a ∈ c.Arrays) (h : (powerR s.Size a.Arity).2 ≠ 0) : RunR c s G fuel false 0 0 5
  | ok (h : RunOk c s fuel) {m : MS} (hx : Ex ⟨s.Size, G, fuel⟩ (.l c.Body) (m0 c s) none m) : RunR c s G fuel (flagAt m.flags 0) m.steps m.used 0
  | stop (h : RunOk c s fuel) {e : Int} {m : MS} (hx : Ex ⟨s.Size, G, fuel⟩ (.l c.Body) (m0 c s) (some e) m) : RunR c s G fuel false 0 0 e
structure ChkOk (c : GCode) : Prop where
  flags : 1 ≤ c.Flags ∧ c.Flags ≤ 1000
  regs : 0 ≤ c.Regs ∧ c.Regs ≤ 60
  keys : ((checkedP c).S.map (·.1)).Nodup
  arrs : (c.Arrays.map (·.Name)).Nodup
  apart : ∀ a ∈ c.Arrays, a.Name ∉ (checkedP c).S.map (·.1)
  look : ∀ a ∈ c.Arrays, lookA (checkedP c).A a.Name = some a.Arity
  only : ∀ k n, lookA (checkedP c).A k = some n → ∃ a ∈ c.Arrays, a.Name = k ∧ a.Arity = n
  ar : ∀ a ∈ c.Arrays, 0 ≤ a.Arity ∧ a.Arity ≤ 12
  sar : ∀ p ∈ (checkedP c).S, 0 ≤ p.2 ∧ p.2 ≤ 12
  body : ∀ x ∈ c.Body, SFit c.Flags.toNat c.Regs.toNat (fun k => match lookA (checkedP c).A k with | some a => some a.toNat | none => (lookA (checkedP c).S k).map Int.toNat) x
def Inv (st : Chk) : Prop := (st.S.map (·.1)).Nodup ∧ (∀ k ∈ st.S.map (·.1), lookA st.A k = none) ∧ (st.bad = false → ∀ p ∈ st.S, 0 ≤ p.2 ∧ p.2 ≤ 12)
structure Ext (a b : Chk) : Prop where
  c : b.c = a.c
  A : b.A = a.A
  bad : b.bad = false → a.bad = false
  inv : Inv a → Inv b
  look : b.bad = false → ∀ k n, lookA a.S k = some n → lookA b.S k = some n
theorem Ext.refl (a : Chk) : Ext a a := ⟨rfl, rfl, id, id, fun _ _ _ h => h⟩
theorem Ext.trans {a b c : Chk} (h : Ext a b) (k : Ext b c) : Ext a c := ⟨k.c.trans h.c, k.A.trans h.A, fun e => h.bad (k.bad e), fun e => k.inv (h.inv e), fun e x n hx => k.look e x n (h.look (k.bad e) x n hx)⟩
theorem ext_need (st : Chk) (x : Bool) : Ext st (st.need x) := ⟨rfl, rfl, fun h => by simp [Chk.need] at h; exact h.1, fun ⟨h1, h2, h3⟩ => ⟨h1, h2, fun h => h3 (by simp [Chk.need] at h; exact h.1)⟩, fun _ _ _ h => h⟩
theorem need_ok {st : Chk} {x : Bool} (h : (st.need x).bad = false) : x = true := by simp [Chk.need] at h; exact h.2
theorem ext_flag (st : Chk) (f : Int) : Ext st (st.flag f) := ext_need _ _
theorem ext_regs : ∀ (l : List Int) (st : Chk), Ext st (st.regs l)
  | [], st => Ext.refl st
  | r :: l, st => (ext_need st _).trans (ext_regs l _)
theorem regs_ok : ∀ (l : List Int) (st : Chk), (st.regs l).bad = false → ∀ x ∈ l, 0 ≤ x ∧ x < st.c.Regs
  | [], st, _, x, h => by cases h
  | r :: l, st, hb, x, h => by
    rw [Chk.regs] at hb
    have h1 := need_ok ((ext_regs l _).bad hb)
    simp only [bA, dT] at h1
    rcases List.mem_cons.1 h with rfl | h
    · exact h1
    · exact regs_ok l _ hb x h
theorem keys_setA {A : List (ByteArray × Int)} {k : ByteArray} {v : Int} : ∀ x, x ∈ (setA A k v).map (·.1) ↔ x = k ∨ x ∈ A.map (·.1) := by
  induction A with
  | nil => intro x; simp [setA]
  | cons p A ih =>
    obtain ⟨k', w⟩ := p
    intro x
    rw [setA]
    by_cases h : k = k'
    · subst h; simp
    · rw [if_neg h]
      simp only [List.map_cons, List.mem_cons, ih]
      constructor
      · rintro (h | h | h) <;> simp [h]
      · rintro (h | h | h) <;> simp [h]
theorem nodup_setA {A : List (ByteArray × Int)} {k : ByteArray} {v : Int} (h : (A.map (·.1)).Nodup) : ((setA A k v).map (·.1)).Nodup := by
  induction A with
  | nil => simp [setA]
  | cons p A ih =>
    obtain ⟨k', w⟩ := p
    simp only [List.map_cons, List.nodup_cons] at h
    rw [setA]
    by_cases e : k = k'
    · subst e; simpa using h
    · rw [if_neg e]
      simp only [List.map_cons, List.nodup_cons]
      refine ⟨fun hm => ?_, ih h.2⟩
      rcases (keys_setA _).1 hm with h1 | h1
      · exact e h1.symm
      · exact h.1 h1
theorem mem_setA {A : List (ByteArray × Int)} {k : ByteArray} {v : Int} : ∀ p ∈ setA A k v, p = (k, v) ∨ p ∈ A := by
  induction A with
  | nil => intro p h; simpa [setA] using h
  | cons q A ih =>
    obtain ⟨k', w⟩ := q
    intro p h
    rw [setA] at h
    by_cases e : k = k'
    · rw [if_pos e] at h
      rcases List.mem_cons.1 h with h | h
      · exact .inl h
      · exact .inr (List.mem_cons_of_mem _ h)
    · rw [if_neg e] at h
      rcases List.mem_cons.1 h with h | h
      · exact .inr (by simp [h])
      · rcases ih p h with h | h
        · exact .inl h
        · exact .inr (List.mem_cons_of_mem _ h)
theorem look_setA {A : List (ByteArray × Int)} {k : ByteArray} {v : Int} (x : ByteArray) : lookA (setA A k v) x = if x = k then some v else lookA A x := by
  induction A with
  | nil => simp only [setA, lookA]
  | cons q A ih =>
    obtain ⟨k', w⟩ := q
    rw [setA]
    by_cases e : k = k'
    · subst e
      simp only [if_pos, lookA]
      by_cases h : x = k <;> simp [h]
    · rw [if_neg e]
      simp only [lookA, ih]
      by_cases h : x = k
      · subst h; simp [e]
      · simp [h]
def sigS (A S : List (ByteArray × Int)) (k : ByteArray) : Option Nat := match lookA A k with | some a => some a.toNat | none => (lookA S k).map Int.toNat
theorem lit_ext (st : Chk) (l : GLit) : Ext st (st.lit l) := by
  unfold Chk.lit
  simp only
  split
  · exact (ext_regs _ _).trans (ext_need _ _)
  · have h1 := (ext_regs l.At st).trans (ext_need (st.regs l.At) (decide (l.Kind = 0) && nameB l.Name && decide (l.At.length ≤ 12)))
    generalize hs2 : (st.regs l.At).need (decide (l.Kind = 0) && nameB l.Name && decide (l.At.length ≤ 12)) = s2 at h1 ⊢
    split
    · exact h1.trans (ext_need _ _)
    · rename_i hA
      have h2 := h1.trans (ext_need s2 (match lookA s2.S l.Name with | none => true | some n => decide (n = l.At.length)))
      refine ⟨h2.c, h2.A, h2.bad, fun hi => ?_, fun hb k n hk => ?_⟩
      · obtain ⟨g1, g2, g3⟩ := h2.inv hi
        refine ⟨nodup_setA g1, fun k hk => ?_, fun hb p hp => ?_⟩
        · rcases (keys_setA _).1 hk with h | h
          · subst h; exact hA
          · exact g2 k h
        · rcases mem_setA p hp with h | h
          · subst h
            have h3 : s2.bad = false := (ext_need s2 _).bad hb
            rw [← hs2] at h3
            have h4 := need_ok h3
            simp only [bA, dT] at h4
            exact ⟨by show (0 : Int) ≤ (l.At.length : Int); omega, by show (l.At.length : Int) ≤ 12; omega⟩
          · exact g3 hb p h
      · have h3 := h2.look hb k n hk
        show lookA (setA _ _ _) k = _
        rw [look_setA]
        by_cases e : k = l.Name
        · rw [if_pos e]
          subst e
          have h4 := need_ok hb
          have h5 : lookA s2.S l.Name = some n := h3
          rw [h5] at h4
          simp only [dT] at h4
          rw [h4]
        · rw [if_neg e]; exact h3
theorem lit_ok (st : Chk) (l : GLit) (hb : (st.lit l).bad = false) : (∀ x ∈ l.At, 0 ≤ x ∧ x < st.c.Regs) ∧ (if l.Kind = 1 ∨ l.Kind = 2 then l.At.length = 2 else l.Kind = 0 ∧ sigS (st.lit l).A (st.lit l).S l.Name = some l.At.length) := by
  unfold Chk.lit at hb ⊢
  simp only at hb ⊢
  by_cases hk : l.Kind = 1 ∨ l.Kind = 2
  · simp only [if_pos hk] at hb ⊢
    have h1 := need_ok hb
    simp only [bA, dT] at h1
    exact ⟨regs_ok _ _ ((ext_need _ _).bad hb), h1.2⟩
  · simp only [if_neg hk] at hb ⊢
    generalize hs2 : (st.regs l.At).need (decide (l.Kind = 0) && nameB l.Name && decide (l.At.length ≤ 12)) = s2 at hb ⊢
    have key : s2.bad = false → (∀ x ∈ l.At, 0 ≤ x ∧ x < st.c.Regs) ∧ l.Kind = 0 := by
      intro h
      rw [← hs2] at h
      have h4 := need_ok h
      simp only [bA, dT] at h4
      exact ⟨regs_ok _ _ ((ext_need _ _).bad h), h4.1.1⟩
    cases hA : lookA s2.A l.Name with
    | some n =>
      rw [hA] at hb
      simp only at hb ⊢
      have h1 := need_ok hb
      simp only [dT] at h1
      have h2 := key ((ext_need _ _).bad hb)
      refine ⟨h2.1, h2.2, ?_⟩
      have : lookA (s2.need (decide (n = ↑l.At.length))).A l.Name = some n := hA
      rw [sigS, this, h1]; rfl
    | none =>
      rw [hA] at hb
      simp only at hb ⊢
      have h2 := key ((ext_need s2 _).bad hb)
      refine ⟨h2.1, h2.2, ?_⟩
      show (match lookA s2.A l.Name with | some a => some a.toNat | none => (lookA (setA s2.S l.Name l.At.length) l.Name).map Int.toNat) = _
      rw [hA]
      simp only
      rw [look_setA, if_pos rfl]; rfl
theorem ext_ite {a b : Chk} (c : Prop) [Decidable c] {d : Chk} (h1 : Ext a b) (h2 : Ext a d) : Ext a (if c then b else d) := by split <;> assumption
theorem use_name {k : Int} (hk : 0 ≤ k ∧ k < 15) (h : (useOf k).regs = true ∨ (useOf k).frm = true) : (useOf k).name = true := by
  have : k = 0 ∨ k = 1 ∨ k = 2 ∨ k = 3 ∨ k = 4 ∨ k = 5 ∨ k = 6 ∨ k = 7 ∨ k = 8 ∨ k = 9 ∨ k = 10 ∨ k = 11 ∨ k = 12 ∨ k = 13 ∨ k = 14 := by omega
  rcases this with rfl | rfl | rfl | rfl | rfl | rfl | rfl | rfl | rfl | rfl | rfl | rfl | rfl | rfl | rfl <;> first | rfl | (rcases h with h | h <;> cases h)
theorem flds_ok (st : Chk) (s : GStmt) : Ext st (st.flds s) ∧ ((st.flds s).bad = false → 0 ≤ s.Kind ∧ s.Kind < 15 → Fit st.c.Flags.toNat st.c.Regs.toNat (sigS (st.flds s).A (st.flds s).S) s) := by
  unfold Chk.flds
  simp only
  obtain ⟨u, hu⟩ : ∃ u, u = useOf s.Kind := ⟨_, rfl⟩
  rw [← hu]
  obtain ⟨a1, e1⟩ : ∃ x, x = st.need (zeroB s) := ⟨_, rfl⟩
  rw [← e1]
  obtain ⟨a2, e2⟩ : ∃ x, x = (if u.f = true then a1.flag s.F else a1) := ⟨_, rfl⟩
  rw [← e2]
  obtain ⟨a3, e3⟩ : ∃ x, x = (if (u.g && decide (s.Kind ≠ 4)) = true then a2.flag s.G else a2) := ⟨_, rfl⟩
  rw [← e3]
  obtain ⟨a4, e4⟩ : ∃ x, x = (if s.Kind = 4 then a3.need (decide (s.G = 0) || decide (s.G = 1)) else a3) := ⟨_, rfl⟩
  rw [← e4]
  obtain ⟨a5, e5⟩ : ∃ x, x = (if u.r = true then a4.regs [s.R] else a4) := ⟨_, rfl⟩
  rw [← e5]
  obtain ⟨a6, e6⟩ : ∃ x, x = (a5.need (decide (0 ≤ s.N) && decide (s.N ≤ 12))) := ⟨_, rfl⟩
  rw [← e6]
  obtain ⟨a7, e7⟩ : ∃ x, x = (if u.lit = true then a6.lit s.Lit else a6) := ⟨_, rfl⟩
  rw [← e7]
  obtain ⟨a8, e8⟩ : ∃ x, x = (a7.regs s.Regs) := ⟨_, rfl⟩
  rw [← e8]
  obtain ⟨a9, e9⟩ : ∃ x, x = a8.need (!u.name || (lookA a8.A s.Name).isSome) := ⟨_, rfl⟩
  rw [← e9]
  obtain ⟨a10, e10⟩ : ∃ x, x = a9.need (!u.regs || decide ((lookA a8.A s.Name).getD 0 = s.Regs.length)) := ⟨_, rfl⟩
  rw [← e10]
  obtain ⟨a11, e11⟩ : ∃ x, x = (if u.frm = true then a10.need ((lookA a10.A s.From).isSome && decide ((lookA a8.A s.Name).getD 0 = (lookA a10.A s.From).getD 0)) else a10) := ⟨_, rfl⟩
  rw [← e11]
  have x1 : Ext st a1 := by rw [e1]; exact ext_need _ _
  have x2 : Ext a1 a2 := by rw [e2]; exact ext_ite _ (ext_flag _ _) (Ext.refl _)
  have x3 : Ext a2 a3 := by rw [e3]; exact ext_ite _ (ext_flag _ _) (Ext.refl _)
  have x4 : Ext a3 a4 := by rw [e4]; exact ext_ite _ (ext_need _ _) (Ext.refl _)
  have x5 : Ext a4 a5 := by rw [e5]; exact ext_ite _ (ext_regs _ _) (Ext.refl _)
  have x6 : Ext a5 a6 := by rw [e6]; exact ext_need _ _
  have x7 : Ext a6 a7 := by rw [e7]; exact ext_ite _ (lit_ext _ _) (Ext.refl _)
  have x8 : Ext a7 a8 := by rw [e8]; exact ext_regs _ _
  have x9 : Ext a8 a9 := by rw [e9]; exact ext_need _ _
  have x10 : Ext a9 a10 := by rw [e10]; exact ext_need _ _
  have x11 : Ext a10 a11 := by rw [e11]; exact ext_ite _ (ext_need _ _) (Ext.refl _)
  have y2 := x1.trans x2
  have y3 := y2.trans x3
  have y4 := y3.trans x4
  have y5 := y4.trans x5
  have y6 := y5.trans x6
  have y7 := y6.trans x7
  have y8 := y7.trans x8
  have y9 := y8.trans x9
  have y10 := y9.trans x10
  refine ⟨y10.trans x11, fun hb hk => ?_⟩
  have b10 := x11.bad hb
  have b9 := x10.bad b10
  have b8 := x9.bad b9
  have b7 := x8.bad b8
  have b6 := x7.bad b7
  have b5 := x6.bad b6
  have b4 := x5.bad b5
  have b3 := x4.bad b4
  have b2 := x3.bad b3
  have b1 := x2.bad b2
  have cF : ∀ {a : Chk}, a.c = st.c → a.c.Flags = st.c.Flags := fun h => by rw [h]
  have cR : ∀ {a : Chk}, a.c = st.c → a.c.Regs = st.c.Regs := fun h => by rw [h]
  have hA8 : a11.A = a8.A := by rw [x11.A, x10.A, x9.A]
  have hA10 : a11.A = a10.A := x11.A
  rw [hu] at e2 e3 e5 e7 e9 e10 e11
  exact {
    kind := hk
    f := fun h => by
      rw [if_pos h] at e2
      rw [e2] at b2
      have := need_ok b2
      simp only [bA, dT] at this
      rw [cF x1.c] at this; omega
    g := fun h h4 => by
      rw [if_pos (by simp [h, h4])] at e3
      rw [e3] at b3
      have := need_ok b3
      simp only [bA, dT] at this
      rw [cF y2.c] at this; omega
    r := fun h => by
      rw [if_pos h] at e5
      rw [e5] at b5
      have := regs_ok _ _ b5 s.R (by simp)
      rw [cR y4.c] at this; omega
    n := by
      rw [e6] at b6
      have := need_ok b6
      simpa using this
    name := fun h => by
      rw [e9] at b9
      have := need_ok b9
      rw [h] at this
      simp only [Bool.not_true, Bool.false_or, Option.isSome_iff_exists] at this
      obtain ⟨n, hn⟩ := this
      exact ⟨n.toNat, by rw [sigS, hA8, hn]⟩
    store := fun h => by
      have hn : (useOf s.Kind).name = true := by
        exact use_name hk (.inl h)
      rw [e9] at b9
      rw [e10] at b10
      have h1 := need_ok b9
      have h2 := need_ok b10
      rw [hn] at h1
      rw [h] at h2
      simp only [Bool.not_true, Bool.false_or, Option.isSome_iff_exists, dT] at h1 h2
      obtain ⟨n, hn⟩ := h1
      rw [hn] at h2
      simp only [Option.getD_some] at h2
      rw [sigS, hA8, hn, h2]; rfl
    regs := fun x hx => by
      rw [e8] at b8
      have := regs_ok _ _ b8 x hx
      rw [cR y7.c] at this; omega
    frm := fun h => by
      have hn : (useOf s.Kind).name = true := by
        exact use_name hk (.inr h)
      rw [if_pos h] at e11
      rw [e11] at hb
      rw [e9] at b9
      have h1 := need_ok b9
      have h2 := need_ok hb
      rw [hn] at h1
      simp only [Bool.not_true, Bool.false_or, Option.isSome_iff_exists, dT, bA] at h1 h2
      obtain ⟨n, hn⟩ := h1
      obtain ⟨⟨m, hm⟩, h3⟩ := h2
      rw [hn, hm] at h3
      simp only [Option.getD_some] at h3
      subst h3
      rw [sigS, sigS]
      have k1 : lookA a11.A s.From = some n := by rw [hA10]; exact hm
      have k2 : lookA a11.A s.Name = some n := by rw [hA8]; exact hn
      rw [k1, k2]
    lit := fun h => by
      rw [if_pos h] at e7
      rw [e7] at b7
      obtain ⟨h1, h2⟩ := lit_ok _ _ b7
      rw [cR y6.c] at h1
      refine ⟨fun x hx => by have := h1 x hx; omega, ?_⟩
      split
      · rename_i hk; rw [if_pos hk] at h2; exact h2
      · rename_i hk
        rw [if_neg hk] at h2
        refine ⟨h2.1, ?_⟩
        have x711 := (((x8.trans x9).trans x10).trans x11)
        rw [← e7] at h2
        have h3 := h2.2
        rw [sigS] at h3 ⊢
        rw [x711.A]
        cases hA : lookA a7.A s.Lit.Name with
        | some n => rw [hA] at h3; exact h3
        | none =>
          rw [hA] at h3
          simp only at h3 ⊢
          cases hS : lookA a7.S s.Lit.Name with
          | none => rw [hS] at h3; cases h3
          | some n =>
            rw [hS] at h3
            rw [x711.look hb _ _ hS]
            exact h3 }
mutual
def depS : GStmt → Nat
  | ⟨_, _, _, _, _, _, _, _, _, body, els⟩ => 1 + max (depL body) (depL els)
def depL : List GStmt → Nat
  | [] => 0
  | s :: l => max (depS s) (depL l)
end
mutual
def allS (p : GStmt → Bool) : GStmt → Bool
  | ⟨k, f, g, r, n, nm, fr, lit, regs, body, els⟩ => p ⟨k, f, g, r, n, nm, fr, lit, regs, body, els⟩ && allL p body && allL p els
def allL (p : GStmt → Bool) : List GStmt → Bool
  | [] => true
  | s :: l => allS p s && allL p l
end
def ownT (A : Ar) (s : GStmt) : List GSym := if s.Kind = 0 ∧ s.Lit.Kind = 0 ∧ A s.Lit.Name = none then [⟨s.Lit.Name, s.Lit.At.length⟩] else []
mutual
def testsS (A : Ar) : GStmt → List GSym → List GSym
  | ⟨k, f, g, r, n, nm, fr, lit, regs, body, els⟩, out => testsL A els (testsL A body (out ++ ownT A ⟨k, f, g, r, n, nm, fr, lit, regs, body, els⟩))
def testsL (A : Ar) : List GStmt → List GSym → List GSym
  | [], out => out
  | s :: l, out => testsL A l (testsS A s out)
end
def consT (l : List GSym) : Bool := l.all fun a => decide (arOf l a.Name = some a.Arity)
def arrB (pre : List GSym) : List GSym → Bool
  | [] => true
  | a :: l => nameB a.Name && inr 13 a.Arity && !(arOf pre a.Name).isSome && arrB (pre ++ [a]) l
def refValid (c : GCode) : Bool :=
  (decide (1 ≤ c.Flags) && decide (c.Flags ≤ 1000) && decide (0 ≤ c.Regs) && decide (c.Regs ≤ 60) && decide (c.Arrays.length ≤ 60)) && arrB [] c.Arrays && (decide (cntL c.Body ≤ 20000) && decide (depL c.Body ≤ 60) && allL (refS (arOf c.Arrays) c.Flags c.Regs) c.Body) && consT (testsL (arOf c.Arrays) c.Body [])
theorem arOf_append (l m : List GSym) (k : ByteArray) : arOf (l ++ m) k = match arOf l k with | some n => some n | none => arOf m k := by
  unfold arOf
  rw [List.find?_append]
  cases h : l.find? fun a => decide (a.Name = k) <;> rfl
theorem arOf_one (a : GSym) (k : ByteArray) : arOf [a] k = if a.Name = k then some a.Arity else none := by
  unfold arOf
  by_cases h : a.Name = k
  · simp [h]
  · simp [h]
theorem consT_mono (l m : List GSym) (h : consT (l ++ m) = true) : consT l = true := by
  unfold consT at *
  rw [List.all_eq_true] at *
  intro a ha
  have h1 := of_decide_eq_true (h a (List.mem_append_left _ ha))
  rw [arOf_append] at h1
  rw [dT]
  cases h2 : arOf l a.Name with
  | some n => rw [h2] at h1; exact h1
  | none =>
    exfalso
    unfold arOf at h2
    rw [Option.map_eq_none_iff, List.find?_eq_none] at h2
    exact h2 a ha (by simp)
theorem consT_snoc (l : List GSym) (a : GSym) (h : consT l = true) : consT (l ++ [a]) = (match arOf l a.Name with | some n => decide (n = a.Arity) | none => true) := by
  unfold consT at *
  rw [List.all_append]
  have e1 : (l.all fun x => decide (arOf (l ++ [a]) x.Name = some x.Arity)) = true := by
    rw [List.all_eq_true] at *
    intro x hx
    have := of_decide_eq_true (h x hx)
    rw [dT, arOf_append, this]
  rw [e1, Bool.true_and]
  simp only [List.all_cons, List.all_nil, Bool.and_true]
  rw [arOf_append, arOf_one, if_pos rfl]
  cases arOf l a.Name <;> simp
mutual
theorem testsS_ext (A : Ar) : ∀ (s : GStmt) (out : List GSym), ∃ m, testsS A s out = out ++ m
  | ⟨k, f, g, r, n, nm, fr, lit, regs, body, els⟩, out => by
    rw [testsS]
    obtain ⟨m1, h1⟩ := testsL_ext A body (out ++ ownT A ⟨k, f, g, r, n, nm, fr, lit, regs, body, els⟩)
    obtain ⟨m2, h2⟩ := testsL_ext A els (testsL A body (out ++ ownT A ⟨k, f, g, r, n, nm, fr, lit, regs, body, els⟩))
    exact ⟨ownT A ⟨k, f, g, r, n, nm, fr, lit, regs, body, els⟩ ++ (m1 ++ m2), by rw [h2, h1]; simp⟩
theorem testsL_ext (A : Ar) : ∀ (l : List GStmt) (out : List GSym), ∃ m, testsL A l out = out ++ m
  | [], out => ⟨[], by simp [testsL]⟩
  | s :: l, out => by
    rw [testsL]
    obtain ⟨m1, h1⟩ := testsS_ext A s out
    obtain ⟨m2, h2⟩ := testsL_ext A l (testsS A s out)
    exact ⟨m1 ++ m2, by rw [h2, h1]; simp⟩
end
theorem testsL_false (A : Ar) (l : List GStmt) (out : List GSym) (h : consT (testsL A l out) = true) : consT out = true := by
  obtain ⟨m, e⟩ := testsL_ext A l out; rw [e] at h; exact consT_mono _ _ h
def RS (S : List (ByteArray × Int)) (out : List GSym) : Prop := ∀ k, lookA S k = arOf out k
theorem own_step (A : Ar) (fl rg : Int) (s : GStmt) (S : List (ByteArray × Int)) (out : List GSym) (hf : fldB A fl rg s = true) (hR : RS S out) (ho : consT out = true) :
    symOk S (stSym A s) = consT (out ++ ownT A s) ∧ (symOk S (stSym A s) = true → RS (addSym S (stSym A s)) (out ++ ownT A s)) := by
  have hno : stSym A s = none → ownT A s = [] → symOk S (stSym A s) = consT (out ++ ownT A s) ∧ (symOk S (stSym A s) = true → RS (addSym S (stSym A s)) (out ++ ownT A s)) := by
    intro h1 h2
    rw [h1, h2, List.append_nil, ho]
    exact ⟨rfl, fun _ => hR⟩
  by_cases hk : s.Kind = 0
  · have hl : litB A rg s.Lit = true := by
      rw [fld_0 A fl rg s hk] at hf
      simp only [bA] at hf
      exact hf.2
    by_cases hl2 : s.Lit.Kind = 1 ∨ s.Lit.Kind = 2
    · refine hno (by simp [stSym, hk, litSym, hl2]) ?_
      unfold ownT
      rw [if_neg]
      rintro ⟨-, h, -⟩
      omega
    · have hl0 : s.Lit.Kind = 0 := by
        unfold litB at hl
        rw [if_neg hl2] at hl
        simp only [bA, dT] at hl
        exact hl.2.1.1.1
      cases hA : A s.Lit.Name with
      | some n =>
        refine hno (by simp [stSym, hk, litSym, hl2, hA]) ?_
        unfold ownT
        rw [if_neg]
        rintro ⟨-, -, h⟩
        rw [hA] at h; cases h
      | none =>
        have e1 : stSym A s = some (s.Lit.Name, (s.Lit.At.length : Int)) := by simp [stSym, hk, litSym, hl2, hA]
        have e2 : ownT A s = [⟨s.Lit.Name, s.Lit.At.length⟩] := by unfold ownT; rw [if_pos ⟨hk, hl0, hA⟩]
        rw [e1, e2, consT_snoc _ _ ho]
        refine ⟨?_, ?_⟩
        · show (match lookA S s.Lit.Name with | none => true | some m => decide (m = (s.Lit.At.length : Int))) = _
          rw [hR]
          cases arOf out s.Lit.Name <;> rfl
        · intro h k
          show lookA (setA S s.Lit.Name s.Lit.At.length) k = _
          rw [look_setA, arOf_append, arOf_one]
          by_cases hkk : k = s.Lit.Name
          · subst hkk
            rw [if_pos rfl, if_pos rfl]
            have h' : (match lookA S s.Lit.Name with | none => true | some m => decide (m = (s.Lit.At.length : Int))) = true := h
            rw [hR] at h'
            cases ha : arOf out s.Lit.Name with
            | none => rfl
            | some m => rw [ha] at h'; rw [show m = (s.Lit.At.length : Int) from of_decide_eq_true h']
          · rw [if_neg hkk, if_neg (fun e => hkk e.symm), hR]
            cases arOf out k <;> rfl
  · exact hno (by simp [stSym, hk]) (by unfold ownT; rw [if_neg]; rintro ⟨h, -⟩; exact hk h)
theorem stmtP_bad (s : GStmt) (L : Int) (st : Chk) (h : st.bad = true) : (stmtP s L st).bad = true := by
  have h1 : (st.enter s L).bad = true := by show (st.bad || _) = true; rw [h]; rfl
  rw [stmtP_eq]
  simp only [h1, if_true]
theorem listP_bad : ∀ (l : List GStmt) (L : Int) (st : Chk), st.bad = true → (listP l L st).1.bad = true
  | [], L, st, h => h
  | s :: l, L, st, h => by
    rw [listP]
    simp only [stmtP_bad s L st h, if_true]
structure SOut (st st' : Chk) (n : Nat) (out : List GSym) : Prop where
  c : st'.c = st.c
  A : st'.A = st.A
  cnt : st'.cnt = st.cnt + n
  R : RS st'.S out
mutual
theorem stmtP_iff : ∀ (s : GStmt) (L : Int) (st : Chk) (out : List GSym), st.bad = false → RS st.S out → consT out = true →
    ((stmtP s L st).bad = false ↔ (allS (refS (lookA st.A) st.c.Flags st.c.Regs) s = true ∧ L - 1 + depS s ≤ 60 ∧ consT (testsS (lookA st.A) s out) = true ∧ st.cnt + cntS s ≤ 20000)) ∧
    ((stmtP s L st).bad = false → SOut st (stmtP s L st) (cntS s) (testsS (lookA st.A) s out))
  | ⟨k, f, g, r, n, nm, fr, lit, regs, body, els⟩, L, st, out, hb, hR, ho => by
    rw [stmtP_eq, allS, testsS, cntS, depS]
    generalize hs : (⟨k, f, g, r, n, nm, fr, lit, regs, body, els⟩ : GStmt) = s
    have hk : s.Kind = k := by rw [← hs]
    have hbody : s.Body = body := by rw [← hs]
    have hels : s.Else = els := by rw [← hs]
    rw [hbody, hels]
    clear hs
    simp only
    have e1b : (st.enter s L).bad = (st.bad || !(decide (0 ≤ s.Kind) && decide (s.Kind < 15) && decide (st.cnt + 1 ≤ 20000) && decide (L ≤ 60))) := rfl
    have e1c : (st.enter s L).c = st.c := rfl
    have e1A : (st.enter s L).A = st.A := rfl
    have e1S : (st.enter s L).S = st.S := rfl
    have e1n : (st.enter s L).cnt = st.cnt + 1 := rfl
    generalize st.enter s L = s1 at *
    rw [hb, Bool.false_or] at e1b
    by_cases hE : (decide (0 ≤ s.Kind) && decide (s.Kind < 15) && decide (st.cnt + 1 ≤ 20000) && decide (L ≤ 60)) = true
    · have hs1 : s1.bad = false := by rw [e1b, hE]; rfl
      simp only [bA, dT] at hE
      obtain ⟨⟨⟨k0, k1⟩, hn⟩, hL⟩ := hE
      have hfl := flds_step s1 s ⟨k0, k1⟩
      rw [e1A, e1S, e1c] at hfl
      have hrefS : refS (lookA st.A) st.c.Flags st.c.Regs s = fldB (lookA st.A) st.c.Flags st.c.Regs s := by
        unfold refS; rw [decide_eq_true k0, decide_eq_true k1]; rfl
      rw [hrefS]
      simp only [hs1, Bool.false_eq_true, if_false]
      have hfb := hfl.bad
      rw [hs1, Bool.false_or] at hfb
      have hcnt2 : (s1.flds s).cnt = st.cnt + 1 := (s1.flds_cnt s).trans e1n
      have hc2 := hfl.c.trans e1c
      have hA2 := hfl.A.trans e1A
      have hS2 := hfl.S
      generalize s1.flds s = s2 at *
      cases hfld : fldB (lookA st.A) st.c.Flags st.c.Regs s with
      | false =>
        rw [hfld, Bool.false_and] at hfb
        have hbb : s2.bad = true := hfb
        have h1 := listP_bad body (L + 1) s2 hbb
        have h2 : (if (listP body (L + 1) s2).2 = true then (listP body (L + 1) s2).1 else (listP els (L + 1) (listP body (L + 1) s2).1).1).bad = true := by
          split
          · exact h1
          · exact listP_bad _ _ _ h1
        rw [h2]
        simp
      | true =>
        have hown := own_step (lookA st.A) st.c.Flags st.c.Regs s st.S out hfld hR ho
        rw [hfld, Bool.true_and] at hfb
        cases hsym : symOk st.S (stSym (lookA st.A) s) with
        | false =>
          rw [hsym] at hfb
          have hbb : s2.bad = true := hfb
          have h1 := listP_bad body (L + 1) s2 hbb
          have h2 : (if (listP body (L + 1) s2).2 = true then (listP body (L + 1) s2).1 else (listP els (L + 1) (listP body (L + 1) s2).1).1).bad = true := by
            split
            · exact h1
            · exact listP_bad _ _ _ h1
          rw [h2]
          refine ⟨⟨(by rintro ⟨⟩), fun h => ?_⟩, (by rintro ⟨⟩)⟩
          have h3 := testsL_false _ _ _ (testsL_false _ _ _ h.2.2.1)
          rw [← hown.1, hsym] at h3
          cases h3
        | true =>
          rw [hsym] at hfb
          have hbb : s2.bad = false := hfb
          have hR2 : RS s2.S (out ++ ownT (lookA st.A) s) := by rw [hS2]; exact hown.2 hsym
          have ho2 : consT (out ++ ownT (lookA st.A) s) = true := by rw [← hown.1, hsym]
          have ih1 := listP_iff body (L + 1) s2 _ hbb hR2 ho2 (by omega) (by omega)
          rw [hA2, hc2, hcnt2] at ih1
          generalize listP body (L + 1) s2 = p at *
          obtain ⟨i1, i2, i3⟩ := ih1
          cases hp : p.1.bad with
          | true =>
            rw [hp] at i1 i2
            have hbad : (if p.2 = true then p.1 else (listP els (L + 1) p.1).1).bad = true := by rw [i1, if_pos rfl]; exact hp
            rw [hbad]
            refine ⟨⟨(by rintro ⟨⟩), fun h => ?_⟩, (by rintro ⟨⟩)⟩
            have h3 : true = false := i2.2 ⟨?_, ?_, testsL_false _ _ _ h.2.2.1, ?_⟩
            · cases h3
            · have := h.1; simp only [Bool.true_and, bA] at this; exact this.1
            · have := h.2.1; omega
            · have := h.2.2.2; omega
          | false =>
            rw [hp] at i1
            have i3 := i3 hp
            obtain ⟨b1, b2, b3, b4⟩ := i2.1 hp
            have hif : (if p.2 = true then p.1 else (listP els (L + 1) p.1).1) = (listP els (L + 1) p.1).1 := by rw [i1]; rfl
            rw [hif]
            have ih2 := listP_iff els (L + 1) p.1 _ hp i3.R b3 (by omega) (by rw [i3.cnt, hcnt2]; omega)
            rw [i3.A, i3.c, i3.cnt, hA2, hc2, hcnt2] at ih2
            obtain ⟨j1, j2, j3⟩ := ih2
            refine ⟨?_, fun h => ?_⟩
            · rw [j2]
              constructor
              · rintro ⟨d1, d2, d3, d4⟩
                refine ⟨by rw [b1, d1]; rfl, by omega, d3, by omega⟩
              · rintro ⟨d1, d2, d3, d4⟩
                refine ⟨?_, by omega, d3, by omega⟩
                simp only [Bool.true_and, bA] at d1
                exact d1.2
            · have j3 := j3 h
              exact ⟨j3.c.trans (i3.c.trans hc2), j3.A.trans (i3.A.trans hA2), by rw [j3.cnt, i3.cnt, hcnt2]; omega, j3.R⟩
    · have hs1 : s1.bad = true := by rw [e1b, Bool.eq_false_iff.2 hE]; rfl
      simp only [hs1, if_true]
      refine ⟨⟨(by rintro ⟨⟩), fun h => absurd ?_ hE⟩, (by rintro ⟨⟩)⟩
      obtain ⟨d1, d2, d3, d4⟩ := h
      simp only [refS, bA, dT] at d1 ⊢
      exact ⟨⟨d1.1.1.1, by omega⟩, by omega⟩
theorem listP_iff : ∀ (l : List GStmt) (L : Int) (st : Chk) (out : List GSym), st.bad = false → RS st.S out → consT out = true → L ≤ 61 → st.cnt ≤ 20000 →
    ((listP l L st).2 = (listP l L st).1.bad) ∧
    ((listP l L st).1.bad = false ↔ (allL (refS (lookA st.A) st.c.Flags st.c.Regs) l = true ∧ L - 1 + depL l ≤ 60 ∧ consT (testsL (lookA st.A) l out) = true ∧ st.cnt + cntL l ≤ 20000)) ∧
    ((listP l L st).1.bad = false → SOut st (listP l L st).1 (cntL l) (testsL (lookA st.A) l out))
  | [], L, st, out, hb, hR, ho, hL, hn => by
    rw [listP, allL, depL, testsL, cntL]
    exact ⟨hb.symm, ⟨fun _ => ⟨rfl, by simp; omega, ho, by simp; omega⟩, fun _ => hb⟩, fun _ => ⟨rfl, rfl, by simp, hR⟩⟩
  | s :: l, L, st, out, hb, hR, ho, hL, hn => by
    rw [listP, allL, depL, testsL, cntL]
    try simp only
    have ih1 := stmtP_iff s L st out hb hR ho
    generalize stmtP s L st = s1 at *
    obtain ⟨i2, i3⟩ := ih1
    cases hp : s1.bad with
    | true =>
      simp only [if_true]
      rw [hp] at i2
      refine ⟨hp.symm, ?_, fun h => by rw [hp] at h; cases h⟩
      rw [hp]
      refine ⟨(by rintro ⟨⟩), fun h => ?_⟩
      exact i2.2 ⟨by have := h.1; rw [bA] at this; exact this.1, by have := h.2.1; omega, testsL_false _ _ _ h.2.2.1, by have := h.2.2.2; omega⟩
    | false =>
      simp only [Bool.false_eq_true, if_false]
      have i3 := i3 hp
      obtain ⟨b1, b2, b3, b4⟩ := i2.1 hp
      have ih2 := listP_iff l L s1 _ hp i3.R b3 hL (by rw [i3.cnt]; omega)
      rw [i3.A, i3.c, i3.cnt] at ih2
      obtain ⟨j1, j2, j3⟩ := ih2
      refine ⟨j1, ?_, fun h => ?_⟩
      · rw [j2]
        constructor
        · rintro ⟨d1, d2, d3, d4⟩
          exact ⟨by rw [b1, d1]; rfl, by omega, d3, by omega⟩
        · rintro ⟨d1, d2, d3, d4⟩
          rw [b1, Bool.true_and] at d1
          exact ⟨d1, by omega, d3, by omega⟩
      · have j3 := j3 h
        exact ⟨j3.c.trans i3.c, j3.A.trans i3.A, by rw [j3.cnt, i3.cnt]; omega, j3.R⟩
end
theorem bodyP_iff : ∀ (l : List GStmt) (st : Chk) (out : List GSym), st.bad = false → RS st.S out → consT out = true → st.cnt ≤ 20000 →
    ((bodyP l st).bad = false ↔ (allL (refS (lookA st.A) st.c.Flags st.c.Regs) l = true ∧ depL l ≤ 60 ∧ consT (testsL (lookA st.A) l out) = true ∧ st.cnt + cntL l ≤ 20000)) ∧
    ((bodyP l st).bad = false → SOut st (bodyP l st) (cntL l) (testsL (lookA st.A) l out))
  | [], st, out, hb, hR, ho, hn => by
    rw [bodyP, allL, depL, testsL, cntL]
    exact ⟨⟨fun _ => ⟨rfl, by omega, ho, by simp; omega⟩, fun _ => hb⟩, fun _ => ⟨rfl, rfl, by simp, hR⟩⟩
  | s :: l, st, out, hb, hR, ho, hn => by
    rw [bodyP, allL, depL, testsL, cntL]
    simp only [hb, Bool.false_eq_true, if_false]
    have ih1 := stmtP_iff s 1 st out hb hR ho
    generalize stmtP s 1 st = s1 at *
    obtain ⟨i2, i3⟩ := ih1
    cases hp : s1.bad with
    | true =>
      rw [hp] at i2
      have hbb : (bodyP l s1).bad = true := by
        cases l with
        | nil => exact hp
        | cons y l => rw [bodyP, if_pos hp]; exact hp
      rw [hbb]
      refine ⟨⟨(by rintro ⟨⟩), fun h => ?_⟩, (by rintro ⟨⟩)⟩
      exact i2.2 ⟨by have := h.1; rw [bA] at this; exact this.1, by have := h.2.1; omega, testsL_false _ _ _ h.2.2.1, by have := h.2.2.2; omega⟩
    | false =>
      have i3 := i3 hp
      obtain ⟨b1, b2, b3, b4⟩ := i2.1 hp
      have ih2 := bodyP_iff l s1 _ hp i3.R b3 (by rw [i3.cnt]; omega)
      rw [i3.A, i3.c, i3.cnt] at ih2
      obtain ⟨j2, j3⟩ := ih2
      refine ⟨?_, fun h => ?_⟩
      · rw [j2]
        constructor
        · rintro ⟨d1, d2, d3, d4⟩
          exact ⟨by rw [b1, d1]; rfl, by omega, d3, by omega⟩
        · rintro ⟨d1, d2, d3, d4⟩
          rw [b1, Bool.true_and] at d1
          exact ⟨d1, by omega, d3, by omega⟩
      · have j3 := j3 h
        exact ⟨j3.c.trans i3.c, j3.A.trans i3.A, by rw [j3.cnt, i3.cnt]; omega, j3.R⟩
theorem arrsP_iff : ∀ (l : List GSym) (st : Chk) (g : MG) (pre : List GSym), (∀ k, lookA st.A k = arOf pre k) →
    ((arrsP l st g).1.bad = false ↔ (st.bad = false ∧ arrB pre l = true)) ∧ ((arrsP l st g).1.bad = false → ∀ k, lookA (arrsP l st g).1.A k = arOf (pre ++ l) k) ∧ (arrsP l st g).1.c = st.c ∧ (arrsP l st g).1.S = st.S
  | [], st, g, pre, hA => by
    rw [arrsP, arrB]
    exact ⟨⟨fun h => ⟨h, rfl⟩, fun h => h.1⟩, fun _ k => by simpa using hA k, rfl, rfl⟩
  | a :: l, st, g, pre, hA => by
    rw [arrsP, arrB]
    have hb1 : (st.arr a).bad = (st.bad || !(!(lookA st.A a.Name).isSome && nameB a.Name && decide (0 ≤ a.Arity) && decide (a.Arity ≤ 12))) := rfl
    have hc1 : (st.arr a).c = st.c := rfl
    have hS1 : (st.arr a).S = st.S := rfl
    have hA1 : (st.arr a).A = setA st.A a.Name a.Arity := rfl
    have hmono : ∀ (l : List GSym) (s : Chk) (g : MG), s.bad = true → (arrsP l s g).1.bad = true := by
      intro l
      induction l with
      | nil => intro s g h; exact h
      | cons x l ih => intro s g h; exact ih _ _ (by show (s.bad || _) = true; rw [h]; rfl)
    have hcs : ∀ (l : List GSym) (s : Chk) (g : MG), (arrsP l s g).1.c = s.c ∧ (arrsP l s g).1.S = s.S := by
      intro l
      induction l with
      | nil => intro s g; exact ⟨rfl, rfl⟩
      | cons x l ih => intro s g; exact ⟨(ih _ _).1, (ih _ _).2⟩
    refine ⟨?_, ?_, (hcs _ _ _).1.trans hc1, (hcs _ _ _).2.trans hS1⟩
    all_goals generalize st.arr a = s1 at *
    all_goals
      cases hp : s1.bad with
      | true =>
        have := hmono l s1 (gsetA st.A g a.Name) hp
        rw [this]
        first
        | (intro h; cases h; done)
        | (refine ⟨(by rintro ⟨⟩), fun h => ?_⟩
           exfalso
           rw [hp, h.1] at hb1
           have h2 := h.2
           rw [hA] at hb1
           simp only [inr, bA, dT, Bool.not_eq_true'] at h2
           rw [h2.1.2, h2.1.1.1, decide_eq_true h2.1.1.2.1, decide_eq_true (show a.Arity ≤ 12 by omega)] at hb1
           cases hb1)
      | false =>
        rw [hp] at hb1
        have hz := hb1.symm
        rw [Bool.or_eq_false_iff] at hz
        have hz2 : (!(lookA st.A a.Name).isSome && nameB a.Name && decide (0 ≤ a.Arity) && decide (a.Arity ≤ 12)) = true := by simpa using hz.2
        simp only [bA, dT, Bool.not_eq_true'] at hz2
        obtain ⟨⟨⟨z1, z2⟩, z3⟩, z4⟩ := hz2
        have hnone : arOf pre a.Name = none := by rw [← hA]; simpa using z1
        have hA2 : ∀ k, lookA s1.A k = arOf (pre ++ [a]) k := by
          intro k
          rw [hA1, look_setA, arOf_append, arOf_one, hA]
          by_cases hk : k = a.Name
          · subst hk; rw [if_pos rfl, if_pos rfl, hnone]
          · rw [if_neg hk, if_neg (fun e => hk e.symm)]; cases arOf pre k <;> rfl
        have ih := arrsP_iff l s1 (gsetA st.A g a.Name) (pre ++ [a]) hA2
        rw [hp] at ih
        first
        | (rw [ih.1]
           have e : (nameB a.Name && inr 13 a.Arity && !(arOf pre a.Name).isSome && arrB (pre ++ [a]) l) = arrB (pre ++ [a]) l := by
             rw [z2, hnone]
             simp only [inr]
             rw [decide_eq_true z3, decide_eq_true (show a.Arity < 13 by omega)]; rfl
           rw [e, hz.1])
        | (intro h k; have := ih.2.1 h k; rw [List.append_assoc] at this; exact this)
theorem checked_iff (c : GCode) : (checkedP c).bad = !refValid c := by
  have h0 : (chk0 c).bad = !(decide (1 ≤ c.Flags) && decide (c.Flags ≤ 1000) && decide (0 ≤ c.Regs) && decide (c.Regs ≤ 60) && decide (c.Arrays.length ≤ 60)) := rfl
  have hA := arrsP_iff c.Arrays (chk0 c) ⟨[], 0⟩ [] (fun k => rfl)
  have hcnt := arrsP_cnt c.Arrays (chk0 c) ⟨[], 0⟩
  have hc0 : (chk0 c).c = c := rfl
  have hS0 : (chk0 c).S = [] := rfl
  have hn0 : (chk0 c).cnt = 0 := rfl
  rw [hc0, hS0] at hA
  rw [hn0] at hcnt
  unfold checkedP refValid
  generalize (decide (1 ≤ c.Flags) && decide (c.Flags ≤ 1000) && decide (0 ≤ c.Regs) && decide (c.Regs ≤ 60) && decide (c.Arrays.length ≤ 60)) = h at *
  generalize (arrsP c.Arrays (chk0 c) ⟨[], 0⟩).1 = s1 at *
  obtain ⟨a1, a2, a3, a4⟩ := hA
  cases hp : s1.bad with
  | true =>
    have hbb : (bodyP c.Body s1).bad = true := by
      cases c.Body with
      | nil => exact hp
      | cons y l => rw [bodyP, if_pos hp]; exact hp
    rw [hbb]
    have : (h && arrB [] c.Arrays) = false := by
      rw [Bool.eq_false_iff]
      intro hh
      rw [bA] at hh
      have := a1.2 ⟨by rw [h0, hh.1]; rfl, hh.2⟩
      rw [hp] at this; cases this
    rw [this]; rfl
  | false =>
    obtain ⟨b1, b2⟩ := a1.1 hp
    have hh : h = true := by rw [h0] at b1; simpa using b1
    have hAr : lookA s1.A = arOf c.Arrays := funext fun k => by simpa using a2 hp k
    have hB := (bodyP_iff c.Body s1 [] hp (by rw [a4]; intro k; rfl) rfl (by omega)).1
    rw [hAr, a3, hcnt] at hB
    rw [hh, b2, Bool.true_and, Bool.true_and]
    have e : (!(decide (cntL c.Body ≤ 20000) && decide (depL c.Body ≤ 60) && allL (refS (arOf c.Arrays) c.Flags c.Regs) c.Body && consT (testsL (arOf c.Arrays) c.Body []))) = (bodyP c.Body s1).bad := by
      cases hx : (bodyP c.Body s1).bad with
      | false =>
        obtain ⟨d1, d2, d3, d4⟩ := hB.1 hx
        rw [d1, d3, decide_eq_true d2, decide_eq_true (show cntL c.Body ≤ 20000 by omega)]; rfl
      | true =>
        cases hy : (decide (cntL c.Body ≤ 20000) && decide (depL c.Body ≤ 60) && allL (refS (arOf c.Arrays) c.Flags c.Regs) c.Body && consT (testsL (arOf c.Arrays) c.Body [])) with
        | false => rfl
        | true =>
          simp only [bA, dT] at hy
          have := hB.2 ⟨hy.1.2, hy.1.1.2, hy.2, by omega⟩
          rw [hx] at this; cases this
    rw [← e]
theorem okB {s : GStmt} (h : s.Ok) : s.Body.length ≤ 4611686018427387904 ∧ (∀ x ∈ s.Body, x.Ok) ∧ s.Else.length ≤ 4611686018427387904 ∧ (∀ x ∈ s.Else, x.Ok) := by
  obtain ⟨_, h1, h2, h3, h4⟩ := h
  exact ⟨by omega, h2, by omega, h4⟩
theorem allS_eq (p : GStmt → Bool) (s : GStmt) : allS p s = (p s && allL p s.Body && allL p s.Else) := by cases s; rfl
theorem ref_stmts (c : GCode) (hc : c.Ok) : ∀ (n : Nat) (l : List GStmt) (hn : cntL l ≤ n) (hl : l.length ≤ 4611686018427387904) (ho : ∀ x ∈ l, x.Ok),
    Tri Tryz.prog 20 [c.av, .sl (l.map GStmt.av)] [] (D (.bool (allL (refS (arOf c.Arrays) c.Flags c.Regs) l)) []) := by
  generalize hA : refS (arOf c.Arrays) c.Flags c.Regs = p
  intro n
  induction n using Nat.strongRecOn with
  | _ n ih =>
    intro l hn hl ho
    refine Tri.enter 39 Tryz.func20 rfl rfl rfl rfl fun Fr w0 => ?_
    repeat' (first | (refine AW.r 0 ?_; (first | refine AL.d (AOp.box_ro rfl rfl) ?_ | refine AL.d (AOp.box_ro rfl rfl) ?_) <;> refine AL.es 1 ?_ <;> refine AL.nil ?_) | refine AW.re 1 1 ?_ | refine AW.jt ?_ | refine AW.jf ?_ | refine AW.jj (fun hb => ?_) (fun hb => ?_) | refine AW.go ?_ | fail)
    refine AW.prune [1, 2, 5] (AW.loop (fun m af h => ∃ i : Nat, i ≤ l.length ∧ m = l.length - i ∧ af = [(1, .sl (l.map GStmt.av)), (2, .at c.av), (5, .int .i64 i)] ∧ h = [] ∧ allL p l = allL p (l.drop i)) l.length ⟨0, Nat.zero_le _, rfl, rfl, rfl, rfl⟩ ?_)
    rintro m af h ⟨i, hi, rfl, rfl, rfl, he⟩
    refine AW.seq ?_
    by_cases hlt : i < l.length
    · obtain ⟨x, hx⟩ := get_lt hlt
      have hx' : (l.map GStmt.av)[((i : Nat) : Int).toNat]? = some x.st := GStmt.get hx
      have hxm := lG hx
      have hxo := ho x hxm
      have hcx := cnt_mem hxm
      have hbo := okB hxo
      have hS := ref_stmt c hc x hxo
      rw [hA] at hS
      have hB := ih (cntL x.Body) (by have := cntS_eq x; omega) x.Body (Nat.le_refl _) hbo.1 hbo.2.1
      have hE := ih (cntL x.Else) (by have := cntS_eq x; omega) x.Else (Nat.le_refl _) hbo.2.2.1 hbo.2.2.2
      rw [drop_cons hx, allL, allS_eq] at he
      repeat' (first | refine AW.re 2 4 ?_ | (refine AW.dq 4 ?_; refine AQ.es 3 ?_; refine AQ.p rfl (iX hx') ?_; refine AQ.es 1 ?_; (first | refine AQ.p rfl (AOp.call rfl rfl hS) ?_ | refine AQ.p rfl (AOp.call rfl rfl hB) ?_ | refine AQ.p rfl (AOp.call rfl rfl hE) ?_) <;> refine AQ.es 2 ?_ <;> (first | refine AQ.es 3 ?_ | (refine AQ.x (fun hb => ?_) (fun hb => ?_) <;> refine AQ.es 3 ?_)) <;> (first | refine AQ.gp rfl (iX hx') ?_ | refine AQ.k ?_) <;> refine AQ.es 2 ?_ <;> (first | refine AQ.gp rfl (AOp.call rfl rfl hS) ?_ | refine AQ.gp rfl (AOp.call rfl rfl hB) ?_ | refine AQ.gp rfl (AOp.call rfl rfl hE) ?_ | refine AQ.k ?_) <;> refine AQ.es 3 ?_ <;> (first | refine AQ.es 3 ?_ | (refine AQ.x (fun hb => ?_) (fun hb => ?_) <;> refine AQ.es 3 ?_)) <;> (first | refine AQ.gp rfl (iX hx') ?_ | refine AQ.k ?_) <;> refine AQ.es 2 ?_ <;> (first | refine AQ.gp rfl (AOp.call rfl rfl hS) ?_ | refine AQ.gp rfl (AOp.call rfl rfl hB) ?_ | refine AQ.gp rfl (AOp.call rfl rfl hE) ?_ | refine AQ.k ?_) <;> refine AQ.es 2 ?_ <;> refine AQ.nil ?_) | refine AW.re 5 1 ?_ | (refine xS 3 1 ?_; refine AL.d AOp.ad ?_; refine xN 1 ?_) | refine AW.jt ?_ | refine AW.jf ?_ | refine AW.jj (fun hb => ?_) (fun hb => ?_) | refine AW.go ?_ | fail)
      all_goals try (exfalso; simp only [dT, dF, lM] at *; omega)
      all_goals clear hS hB hE ih
      all_goals first
        | (refine AW.retv rfl ⟨retB ?_, rfl⟩; rw [he]; simp_all; done)
        | (refine AW.again_keep (l.length - (i + 1)) [1, 2, 5] (by omega) ⟨i + 1, hlt, rfl, rfl, rfl, ?_⟩; rw [he]; simp_all; done)
    · rw [List.drop_eq_nil_of_le (by omega)] at he
      repeat' (first | refine AW.re 2 4 ?_ | refine AW.re 6 1 ?_ | refine AW.jt ?_ | refine AW.jf ?_ | refine AW.jj (fun hb => ?_) (fun hb => ?_) | refine AW.go ?_ | fail)
      all_goals try (exfalso; simp only [dT, dF, lM] at *; omega)
      exact AW.retv rfl ⟨by rw [he]; rfl, rfl⟩
section
variable {P : Program} {af : AF} {ah : AH} {d : Option Tmp} {T : TypeId} {ps : String} {es : Array Edge} {gd : Option (Nat × Bool)}
theorem AOp.max3 {x y z : Operand} {m n o : Int} {k : IntKind} {tys : Array TypeId} (hx : aeval af x = some (.int k m)) (hy : aeval af y = some (.int k n)) (hz : aeval af z = some (.int k o)) : AOp P ⟨d, .call ⟨.builtin .max, #[x, y, z], tys⟩, T, ps, es, gd⟩ af ah (D (.int k (max (max m n) o)) ah) :=
  AOp.of_pure fun S a w hf _ => ⟨.int k (max (max m n) o), by
    simp [execOp, resolve, invoke, builtin, Builtin.max_, Builtin.max2, (aeval_rel hf hx).int, (aeval_rel hf hy).int, (aeval_rel hf hz).int]
    simp only [Int.max_def]
    repeat' split
    all_goals omega, mk_int⟩
end
theorem depS_eq (s : GStmt) : depS s = 1 + max (depL s.Body) (depL s.Else) := by cases s; rfl
mutual
theorem depS_le : ∀ s : GStmt, depS s ≤ cntS s
  | ⟨_, _, _, _, _, _, _, _, _, body, els⟩ => by
    have h1 := depL_le body; have h2 := depL_le els
    rw [depS, cntS]; omega
theorem depL_le : ∀ l : List GStmt, depL l ≤ cntL l
  | [] => Nat.le_refl _
  | s :: l => by
    have h1 := depS_le s; have h2 := depL_le l
    rw [depL, cntL]; omega
end
theorem ref_Count : ∀ (n : Nat) (l : List GStmt) (hn : cntL l ≤ n) (hb : cntL l ≤ 1000000) (hl : l.length ≤ 4611686018427387904) (ho : ∀ x ∈ l, x.Ok),
    Tri Tryz.prog 19 [.sl (l.map GStmt.av)] [] (D (.tup [.int .i64 (cntL l), .int .i64 (depL l)]) []) := by
  intro n
  induction n using Nat.strongRecOn with
  | _ n ih =>
    intro l hn hb hl ho
    refine Tri.enter 49 Tryz.func19 rfl rfl rfl rfl fun Fr w0 => ?_
    repeat' (first | refine AW.re 0 2 ?_ | refine AW.re 1 2 ?_ | refine AW.re 2 1 ?_ | refine AW.jt ?_ | refine AW.jf ?_ | refine AW.jj (fun hb => ?_) (fun hb => ?_) | refine AW.go ?_ | fail)
    refine AW.prune [0, 4, 5, 6] (AW.loop (fun m af h => ∃ i a d : Nat, i ≤ l.length ∧ m = l.length - i ∧ af = [(0, .sl (l.map GStmt.av)), (4, .int .i64 a), (5, .int .i64 d), (6, .int .i64 i)] ∧ h = [] ∧ cntL l = a + cntL (l.drop i) ∧ depL l = max d (depL (l.drop i))) l.length ⟨0, 0, 0, Nat.zero_le _, rfl, rfl, rfl, by simp, by simp⟩ ?_)
    rintro m af h ⟨i, a, d, hi, rfl, rfl, rfl, he1, he2⟩
    refine AW.seq ?_
    by_cases hlt : i < l.length
    · obtain ⟨x, hx⟩ := get_lt hlt
      have hx' : (l.map GStmt.av)[((i : Nat) : Int).toNat]? = some x.st := GStmt.get hx
      have hxm := lG hx
      have hxo := ho x hxm
      have hcx := cnt_mem hxm
      have hbo := okB hxo
      have hcs := cntS_eq x
      have hds := depS_eq x
      have hd := depL_le l
      have hd1 := depL_le x.Body
      have hd2 := depL_le x.Else
      have hB := ih (cntL x.Body) (by omega) x.Body (Nat.le_refl _) (by omega) hbo.1 hbo.2.1
      have hE := ih (cntL x.Else) (by omega) x.Else (Nat.le_refl _) (by omega) hbo.2.2.1 hbo.2.2.2
      rw [drop_cons hx, cntL] at he1
      rw [drop_cons hx, depL] at he2
      repeat' (first | refine AW.re 3 4 ?_ | (refine xS 5 2 ?_; refine AL.d (iX hx') ?_; refine AL.es 2 ?_; (first | refine AL.d (AOp.call rfl rfl hB) ?_ | refine AL.d (AOp.call rfl rfl hE) ?_) <;> refine AL.es 5 ?_ <;> refine AL.nil ?_) | (refine xS 6 2 ?_; refine AL.d (iX hx') ?_; refine AL.es 2 ?_; (first | refine AL.d (AOp.call rfl rfl hB) ?_ | refine AL.d (AOp.call rfl rfl hE) ?_) <;> refine AL.es 5 ?_ <;> refine AL.nil ?_) | (refine xS 7 1 ?_; refine AL.d AOp.ad ?_; refine AL.es 1 ?_; refine AL.d AOp.ad ?_; refine AL.es 1 ?_; refine AL.d AOp.ad ?_; refine AL.es 2 ?_; refine AL.d AOp.ad ?_; refine AL.es 1 ?_; refine AL.d AOp.ad ?_; (first | refine AL.d (AOp.max3 rfl rfl rfl) ?_ | refine AL.d (AOp.max2 rfl rfl) ?_) <;> refine AL.es 2 ?_ <;> refine AL.nil ?_) | (refine xS 4 1 ?_; refine AL.d AOp.ad ?_; refine xN 1 ?_) | refine AW.jt ?_ | refine AW.jf ?_ | refine AW.jj (fun hb => ?_) (fun hb => ?_) | refine AW.go ?_ | fail)
      all_goals try (exfalso; simp only [dT, dF, lM] at *; omega)
      refine AW.again_keep (l.length - (i + 1)) [0, 4, 5, 6] (by omega) ⟨i + 1, a + 1 + cntL x.Body + cntL x.Else, max (max d (depL x.Body + 1)) (depL x.Else + 1), hlt, rfl, ?_, rfl, by omega, by omega⟩
      have e1 : ((a + 1 + cntL x.Body + cntL x.Else : Nat) : Int) = (a : Int) + 1 + cntL x.Body + cntL x.Else := by omega
      have e2 : ((max (max d (depL x.Body + 1)) (depL x.Else + 1) : Nat) : Int) = max (max (d : Int) ((depL x.Body : Int) + 1)) ((depL x.Else : Int) + 1) := by omega
      rw [e1, e2]
      rfl
    · rw [List.drop_eq_nil_of_le (by omega)] at he1 he2
      repeat' (first | refine AW.re 3 4 ?_ | refine AW.re 8 4 ?_ | refine AW.jt ?_ | refine AW.jf ?_ | refine AW.jj (fun hb => ?_) (fun hb => ?_) | refine AW.go ?_ | fail)
      all_goals try (exfalso; simp only [dT, dF, lM] at *; omega)
      simp only [cntL, depL] at he1 he2
      exact AW.retv rfl ⟨by rw [he1, he2]; simp, rfl⟩
theorem ownT_len (A : Ar) (s : GStmt) : (ownT A s).length ≤ 1 := by unfold ownT; split <;> simp
mutual
theorem testsS_len (A : Ar) : ∀ (s : GStmt) (out : List GSym), (testsS A s out).length ≤ out.length + cntS s
  | ⟨k, f, g, r, n, nm, fr, lit, regs, body, els⟩, out => by
    rw [testsS, cntS]
    have h1 := testsL_len A body (out ++ ownT A ⟨k, f, g, r, n, nm, fr, lit, regs, body, els⟩)
    have h2 := testsL_len A els (testsL A body (out ++ ownT A ⟨k, f, g, r, n, nm, fr, lit, regs, body, els⟩))
    have h3 := ownT_len A ⟨k, f, g, r, n, nm, fr, lit, regs, body, els⟩
    rw [lA] at h1
    omega
theorem testsL_len (A : Ar) : ∀ (l : List GStmt) (out : List GSym), (testsL A l out).length ≤ out.length + cntL l
  | [], out => Nat.le_refl _
  | s :: l, out => by
    rw [testsL, cntL]
    have h1 := testsS_len A s out
    have h2 := testsL_len A l (testsS A s out)
    omega
end
theorem testsS_eq (A : Ar) (s : GStmt) (out : List GSym) : testsS A s out = testsL A s.Else (testsL A s.Body (out ++ ownT A s)) := by cases s; rfl
theorem sym_sz (o : List GSym) : ∀ x ∈ o.map GSym.av, x.size = 2 := by
  intro x hx
  obtain ⟨y, _, rfl⟩ := List.mem_map.1 hx
  rfl
theorem ref_tests (c : GCode) (hc : c.Ok) : ∀ (n : Nat) (l : List GStmt) (hn : cntL l ≤ n) (hl : l.length ≤ 4611686018427387904) (ho : ∀ x ∈ l, x.Ok) (out : List GSym) (tb : Option Nat) (tc : Nat) (hout : out.length + cntL l ≤ 1000000),
    Tri Tryz.prog 21 [c.av, .sl (l.map GStmt.av), .slt (out.map GSym.av) tb tc] [.tail tb (out.map GSym.av).length tc 2]
      (fun x h => ∃ b' c', x = .ret (.slt ((testsL (arOf c.Arrays) l out).map GSym.av) b' c') ∧ h = [.tail b' ((testsL (arOf c.Arrays) l out).map GSym.av).length c' 2]) := by
  have hal : c.Arrays.length ≤ 4611686018427387904 := by have := hc.2.2.1.1; omega
  generalize hA : arOf c.Arrays = A
  intro n
  induction n using Nat.strongRecOn with
  | _ n ih =>
    intro l hn hl ho out tb tc hout
    refine Tri.enter 64 Tryz.func21 rfl rfl rfl rfl fun Fr w0 => ?_
    repeat' (first | (refine AW.r 0 ?_; (first | refine AL.d (AOp.box_ro rfl rfl) ?_ | refine AL.d (AOp.box_ro rfl rfl) ?_) <;> refine AL.es 1 ?_ <;> refine AL.nil ?_) | refine AW.re 1 1 ?_ | refine AW.jt ?_ | refine AW.jf ?_ | refine AW.jj (fun hb => ?_) (fun hb => ?_) | refine AW.go ?_ | fail)
    refine AW.prune [1, 2, 3, 7] (AW.loop (fun m af h => ∃ (i : Nat) (o : List GSym) (tb : Option Nat) (tc : Nat), i ≤ l.length ∧ m = l.length - i ∧ af = [(1, .sl (l.map GStmt.av)), (2, .slt (o.map GSym.av) tb tc), (3, .at c.av), (7, .int .i64 i)] ∧ h = [.tail tb (o.map GSym.av).length tc 2] ∧ testsL A l out = testsL A (l.drop i) o ∧ o.length + cntL (l.drop i) ≤ 1000000) l.length ⟨0, out, tb, tc, Nat.zero_le _, rfl, rfl, rfl, rfl, hout⟩ ?_)
    rintro m af h ⟨i, o, tb, tc, hi, rfl, rfl, rfl, he, hle⟩
    refine AW.seq ?_
    by_cases hlt : i < l.length
    · obtain ⟨x, hx⟩ := get_lt hlt
      have hx' : (l.map GStmt.av)[((i : Nat) : Int).toNat]? = some x.st := GStmt.get hx
      have hxm := lG hx
      have hxo := ho x hxm
      have hcx := cnt_mem hxm
      have hbo := okB hxo
      have hcs := cntS_eq x
      have hB := ih (cntL x.Body) (by omega) x.Body (Nat.le_refl _) hbo.1 hbo.2.1
      have hE := ih (cntL x.Else) (by omega) x.Else (Nat.le_refl _) hbo.2.2.1 hbo.2.2.2
      rw [drop_cons hx, testsL, testsS_eq] at he
      rw [drop_cons hx, cntL] at hle
      have hOk := hxo
      obtain ⟨⟨_, _, _, _, _, _, _, hLit, _⟩, _⟩ := hOk
      have hLs := hLit.2.1
      have hF := ref_find c.Arrays x.Lit.Name hal
      repeat' (first | refine AW.re 2 4 ?_ | (refine xS 4 2 ?_; refine AL.d (iX hx') ?_; refine AL.es 2 ?_; refine AL.alloc_store (by kernel_rfl) rfl rfl rfl rfl ?_; refine AL.nil ?_) | refine AW.jt ?_ | refine AW.jf ?_ | refine AW.jj (fun hb => ?_) (fun hb => ?_) | refine AW.go ?_ | fail)
      all_goals try (exfalso; simp only [dT, dF, lM] at *; omega)
      refine AW.prune [1, 2, 3, 7, 8] ?_
      refine AW.cut (fun af ah => ∃ v : Bool, af = [(1, .sl (l.map GStmt.av)), (2, .slt (o.map GSym.av) tb tc), (3, .at c.av), (7, .int .i64 i), (8, .at x.Lit.av), (38, .bool v)] ∧ ah = [.tail tb (o.map GSym.av).length tc 2] ∧ v = decide (x.Kind = 0 ∧ x.Lit.Kind = 0 ∧ A x.Lit.Name = none)) ?_ ?_
      · repeat' (first | (refine xS 5 2 ?_; refine AL.d (iX hx') ?_; refine AL.es 4 ?_; (first | refine AL.es 5 ?_ | (refine AL.gx (fun hb => ?_) (fun hb => ?_) <;> refine AL.es 5 ?_)) <;> (first | refine AL.es 4 ?_ | (refine AL.gx (fun hb => ?_) (fun hb => ?_) <;> refine AL.es 4 ?_)) <;> (first | (refine AL.gd ?_; refine AL.d (AOp.call rfl rfl (hF.pure _)) ?_) | refine AL.gs ?_ | refine AL.gu ?_) <;> refine AL.es 2 ?_ <;> refine AL.nil ?_) | refine AW.jt ?_ | refine AW.jf ?_ | refine AW.jj (fun hb => ?_) (fun hb => ?_) | refine AW.go ?_ | fail)
        all_goals (refine AW.meet [1, 2, 3, 7, 8, 38] ⟨_, rfl, rfl, ?_⟩; clear hB hE ih hF he; simp only [beq_iff_eq, beq_eq_false_iff_ne, ne_eq] at *; simp_all [ofConst])
        rw [← hA]
        rcases findJ_spec x.Lit.Name c.Arrays 0 with ⟨e1, e2⟩ | ⟨k, a, e1, -, -, e2⟩
        · rw [e1, e2]; simp
        · rw [e1, e2]; simp
      rintro af ah ⟨v, rfl, rfl, hv⟩
      refine AW.cut (fun af ah => ∃ (tb' : Option Nat) (tc' : Nat), af = [(1, .sl (l.map GStmt.av)), (2, .slt ((o ++ ownT A x).map GSym.av) tb' tc'), (3, .at c.av), (7, .int .i64 i)] ∧ ah = [.tail tb' ((o ++ ownT A x).map GSym.av).length tc' 2]) ?_ ?_
      · repeat' (first | (refine xS 6 6 ?_; refine AL.d (AOp.build (pl := [(0, 1), (1, 1)]) (z := .st [.str ⟨#[]⟩, .int .i64 0]) (by kernel_rfl) rfl rfl rfl) ?_ <;> refine AL.d (AOp.lit (e := 48) (sz := 2) (by kernel_rfl) rfl rfl rfl (by simp [AV.size, AV.sizes]) (by decide)) ?_ <;> refine AL.append (i := 0) (xs := o.map GSym.av) (e := 48) (sz := 2) (bytes := 24) rfl rfl rfl rfl (by kernel_rfl) (by kernel_rfl) (sym_sz o) (by simp [AV.size, AV.sizes]) rfl (by simp only [lM]; simp; omega) (by simp only [lM]; simp; omega) rfl fun b' c' => ?_ <;> refine AL.es 1 ?_ <;> refine AL.nil ?_) | refine AW.jt ?_ | refine AW.jf ?_ | refine AW.jj (fun hb => ?_) (fun hb => ?_) | refine AW.go ?_ | fail)
        · have e1 : ownT A x = [⟨x.Lit.Name, x.Lit.At.length⟩] := by rw [hb] at hv; unfold ownT; rw [if_pos (of_decide_eq_true hv.symm)]
          have e2 : (o ++ ownT A x).map GSym.av = o.map GSym.av ++ [.st [.str x.Lit.Name, .int .i64 (x.Lit.At.map iav).length]] := by rw [e1]; simp [GSym.av]
          refine AW.meet [1, 2, 3, 7] ⟨b', c', ?_, ?_⟩
          · rw [e2]; rfl
          · rw [e2]; rfl
        · have e1 : ownT A x = [] := by rw [hb] at hv; unfold ownT; rw [if_neg (of_decide_eq_false hv.symm)]
          refine AW.meet [1, 2, 3, 7] ⟨tb, tc, ?_, ?_⟩
          · rw [e1, List.append_nil]; rfl
          · rw [e1, List.append_nil]
      rintro af ah ⟨tb', tc', rfl, rfl⟩
      have hln := ownT_len A x
      refine AW.explore [true] [13, 14, 15] rfl (by kernel_rfl) (by kernel_rfl) (by kernel_rfl) (by kernel_rfl) ?_
      repeat' (first
        | refine AQE.hole rfl rfl ?_
        | refine AQE.ev rfl rfl rfl rfl ?_
        | refine AQE.op rfl (iX hx') rfl rfl ?_
        | refine AQE.op rfl (AOp.field_at rfl rfl (by kernel_rfl) rfl) rfl rfl ?_
        | refine AQE.op rfl (AOp.load_at rfl rfl (by kernel_rfl)) rfl rfl ?_
        | refine AQE.nil ?_)
      refine AX.one (n := 2) 13 rfl ?_
      refine AXS.step (i := 13) rfl rfl rfl (AOp.call rfl rfl (hB (o ++ ownT A x) tb' tc' (by rw [lA]; omega))) ?_ (by rintro _ _ ⟨_, _, e, _⟩; cases e)
      rintro _ _ ⟨b1, c1, e, rfl⟩
      injection e with e
      subst e
      dsimp only [sA, sB]
      have hl1 := testsL_len A x.Body (o ++ ownT A x)
      rw [lA] at hl1
      refine AX.one (n := 1) 14 rfl ?_
      refine AXS.step (i := 14) rfl rfl rfl (AOp.call rfl rfl (hE (testsL A x.Body (o ++ ownT A x)) b1 c1 (by omega))) ?_ (by rintro _ _ ⟨_, _, e, _⟩; cases e)
      rintro _ _ ⟨b2, c2, e, rfl⟩
      injection e with e
      subst e
      dsimp only [sA, sB]
      have hl2 := testsL_len A x.Else (testsL A x.Body (o ++ ownT A x))
      refine AX.one (n := 0) 15 rfl ?_
      refine AXS.det (i := 15) rfl rfl rfl (AOp.ev rfl) ?_
      dsimp only [sA, sB]
      refine AX.done [(1, .sl (l.map GStmt.av)), (2, .slt ((testsL A x.Else (testsL A x.Body (o ++ ownT A x))).map GSym.av) b2 c2), (3, .at c.av), (7, .int .i64 i)] rfl ?_
      repeat' (first | (refine xS 3 1 ?_; refine AL.d AOp.ad ?_; refine xN 1 ?_) | refine AW.jt ?_ | refine AW.jf ?_ | refine AW.jj (fun hb => ?_) (fun hb => ?_) | refine AW.go ?_ | fail)
      exact AW.again_keep (l.length - (i + 1)) [1, 2, 3, 7] (by omega) ⟨i + 1, _, b2, c2, hlt, rfl, rfl, rfl, he, by omega⟩
    · rw [List.drop_eq_nil_of_le (by omega), testsL] at he
      repeat' (first | refine AW.re 2 4 ?_ | refine AW.re 8 2 ?_ | refine AW.jt ?_ | refine AW.jf ?_ | refine AW.jj (fun hb => ?_) (fun hb => ?_) | refine AW.go ?_ | fail)
      all_goals try (exfalso; simp only [dT, dF, lM] at *; omega)
      subst he
      exact AW.retv rfl ⟨_, _, rfl, rfl⟩
theorem findJ_none (n : ByteArray) (l : List GSym) : decide (findJ n l 0 ≥ 0) = (arOf l n).isSome := by
  rcases findJ_spec n l 0 with ⟨e1, e2⟩ | ⟨k, a, e1, -, -, e2⟩
  · rw [e1, e2]; rfl
  · rw [e1, e2]; simp
theorem ref_Valid (c : GCode) (hc : c.Ok) (hcnt : cntL c.Body ≤ 1000000) : Tri Tryz.prog 6 [c.av] [] (D (.bool (refValid c)) []) := by
  have hcb := hc.2.2.2
  have hca := hc.2.2.1
  have hal : c.Arrays.length ≤ 4611686018427387904 := by have := hca.1; omega
  have hbl : c.Body.length ≤ 4611686018427387904 := by have := hcb.1; omega
  have hCount := ref_Count (cntL c.Body) c.Body (Nat.le_refl _) hcnt hbl hcb.2
  have hSt := ref_stmts c hc (cntL c.Body) c.Body (Nat.le_refl _) hbl hcb.2
  have hT := ref_tests c hc (cntL c.Body) c.Body (Nat.le_refl _) hbl hcb.2 [] none 0 (by simpa using hcnt)
  have hdef : refValid c = ((decide (1 ≤ c.Flags) && decide (c.Flags ≤ 1000) && decide (0 ≤ c.Regs) && decide (c.Regs ≤ 60) && decide (c.Arrays.length ≤ 60)) && arrB [] c.Arrays && (decide (cntL c.Body ≤ 20000) && decide (depL c.Body ≤ 60) && allL (refS (arOf c.Arrays) c.Flags c.Regs) c.Body) && consT (testsL (arOf c.Arrays) c.Body [])) := rfl
  rw [hdef]
  have hTl := testsL_len (arOf c.Arrays) c.Body []
  rw [List.length_nil, Nat.zero_add] at hTl
  generalize testsL (arOf c.Arrays) c.Body [] = T at *
  generalize allL (refS (arOf c.Arrays) c.Flags c.Regs) c.Body = vS at *
  generalize hV : (decide (cntL c.Body ≤ 20000) && decide (depL c.Body ≤ 60) && vS) = v2
  generalize hH : (decide (1 ≤ c.Flags) && decide (c.Flags ≤ 1000) && decide (0 ≤ c.Regs) && decide (c.Regs ≤ 60) && decide (c.Arrays.length ≤ 60)) = v0
  refine Tri.enter 120 Tryz.func6 rfl rfl rfl rfl fun Fr w0 => ?_
  repeat' (first | (refine AW.r 0 ?_; (first | refine AL.d (AOp.box_ro rfl rfl) ?_ | refine AL.d (AOp.box_ro rfl rfl) ?_) <;> refine AL.es 1 ?_ <;> refine AL.nil ?_) | refine AW.jt ?_ | refine AW.jf ?_ | refine AW.jj (fun hb => ?_) (fun hb => ?_) | refine AW.go ?_ | fail)
  refine AW.cut (fun af ah => ∃ v : Bool, af = [(1, .at c.av), (32, .bool v)] ∧ ah = [] ∧ v = !v0) ?_ ?_
  · repeat' (first | (refine xS 1 4 ?_; (first | refine AL.es 5 ?_ | (refine AL.gx (fun hb => ?_) (fun hb => ?_) <;> refine AL.es 5 ?_)) <;> (first | refine AL.es 5 ?_ | (refine AL.gx (fun hb => ?_) (fun hb => ?_) <;> refine AL.es 5 ?_)) <;> (first | refine AL.es 5 ?_ | (refine AL.gx (fun hb => ?_) (fun hb => ?_) <;> refine AL.es 5 ?_)) <;> (first | refine AL.es 5 ?_ | (refine AL.gx (fun hb => ?_) (fun hb => ?_) <;> refine AL.es 5 ?_)) <;> refine AL.nil ?_) | refine AW.jt ?_ | refine AW.jf ?_ | refine AW.jj (fun hb => ?_) (fun hb => ?_) | refine AW.go ?_ | fail)
    all_goals (refine AW.meet [1, 32] ⟨_, rfl, rfl, ?_⟩; subst hH; clear hCount hSt hT; simp only [lM, dT, dF] at *; simp_all [ofConst])
    all_goals (try (rw [Bool.eq_iff_iff]; simp; try omega))
  rintro af ah ⟨v, rfl, rfl, hv⟩
  cases v0 with
  | false =>
    subst hv
    repeat' (first | refine AW.re 2 1 ?_ | refine AW.jt ?_ | refine AW.jf ?_ | refine AW.jj (fun hb => ?_) (fun hb => ?_) | refine AW.go ?_ | fail)
    exact AW.retv rfl ⟨rfl, rfl⟩
  | true =>
    subst hv
    repeat' (first | refine AW.re 3 1 ?_ | refine AW.jt ?_ | refine AW.jf ?_ | refine AW.jj (fun hb => ?_) (fun hb => ?_) | refine AW.go ?_ | fail)
    refine AW.prune [1, 3] (AW.loop (fun m af h => ∃ i : Nat, i ≤ c.Arrays.length ∧ m = c.Arrays.length - i ∧ af = [(1, .at c.av), (3, .int .i64 i)] ∧ h = [] ∧ arrB [] c.Arrays = arrB (c.Arrays.take i) (c.Arrays.drop i)) c.Arrays.length ⟨0, Nat.zero_le _, rfl, rfl, rfl, rfl⟩ ?_)
    rintro m af h ⟨i, hi, rfl, rfl, rfl, he⟩
    refine AW.seq ?_
    by_cases hlt : i < c.Arrays.length
    · obtain ⟨x, hx⟩ := get_lt hlt
      have hx' : (c.Arrays.map GSym.av)[((i : Nat) : Int).toNat]? = some x.av := map_get hx
      have hxo := hca.2 x (lG hx)
      have hN := ref_Name x.Name hxo.1
      have hI := ref_in 13 [x.Arity] (by simp)
      rw [show inB 13 [x.Arity] = inr 13 x.Arity by simp [inB]] at hI
      have hF := ref_find (c.Arrays.take i) x.Name (by rw [List.length_take]; omega)
      rw [List.map_take] at hF
      have htk : c.Arrays.take (i + 1) = c.Arrays.take i ++ [x] := by rw [List.take_add_one, hx]; rfl
      rw [drop_cons hx, arrB, ← htk] at he
      have hf2 := findJ_none x.Name (c.Arrays.take i)
      generalize findJ x.Name (c.Arrays.take i) 0 = j at *
      repeat' (first | refine AW.re 4 5 ?_ | (refine AW.dq 6 ?_; refine AQ.es 3 ?_; refine AQ.p rfl (iX hx') ?_; refine AQ.es 2 ?_; (first | refine AQ.p rfl (AOp.call rfl rfl hN) ?_ | refine AQ.p rfl (AOp.call rfl rfl hI) ?_ | refine AQ.p rfl (AOp.call rfl rfl hF) ?_) <;> refine AQ.es 2 ?_ <;> (first | refine AQ.es 3 ?_ | (refine AQ.x (fun hb => ?_) (fun hb => ?_) <;> refine AQ.es 3 ?_)) <;> (first | refine AQ.gp rfl (iX hx') ?_ | refine AQ.k ?_) <;> refine AQ.es 2 ?_ <;> (first | refine AQ.gp rfl (AOp.lit (e := 3) (sz := 1) (by kernel_rfl) rfl rfl rfl (by simp [AV.size, ofConst]) (by decide)) ?_ | refine AQ.k ?_) <;> (first | refine AQ.gp rfl (AOp.call rfl rfl hN) ?_ | refine AQ.gp rfl (AOp.call rfl rfl hI) ?_ | refine AQ.gp rfl (AOp.call rfl rfl hF) ?_ | refine AQ.k ?_) <;> refine AQ.es 3 ?_ <;> (first | refine AQ.es 3 ?_ | (refine AQ.x (fun hb => ?_) (fun hb => ?_) <;> refine AQ.es 3 ?_)) <;> (first | refine AQ.gp rfl (AOp.cut (sz := 2) rfl rfl (by kernel_rfl) (sym_sz _) bndIs.none (bndIs.some (n := i) rfl (by omega)) (by omega) (by simp; omega)) ?_ | refine AQ.k ?_) <;> refine AQ.es 3 ?_ <;> (first | refine AQ.gp rfl (iX hx') ?_ | refine AQ.k ?_) <;> refine AQ.es 2 ?_ <;> (first | refine AQ.gp rfl (AOp.call rfl rfl hN) ?_ | refine AQ.gp rfl (AOp.call rfl rfl hI) ?_ | refine AQ.gp rfl (AOp.call rfl rfl hF) ?_ | refine AQ.k ?_) <;> refine AQ.es 2 ?_ <;> refine AQ.nil ?_) | refine AW.re 7 1 ?_ | (refine xS 5 1 ?_; refine AL.d AOp.ad ?_; refine xN 1 ?_) | refine AW.jt ?_ | refine AW.jf ?_ | refine AW.jj (fun hb => ?_) (fun hb => ?_) | refine AW.go ?_ | fail)
      all_goals try (exfalso; simp only [dT, dF, lM] at *; omega)
      all_goals clear hN hI hF hCount hSt hT
      all_goals first
        | (refine AW.retv rfl ⟨retB ?_, rfl⟩; rw [he]; simp_all; done)
        | (refine AW.again_keep (c.Arrays.length - (i + 1)) [1, 3] (by omega) ⟨i + 1, hlt, rfl, rfl, rfl, ?_⟩; rw [he]; simp_all; done)
    · rw [List.drop_eq_nil_of_le (by omega), arrB] at he
      rw [he]
      repeat' (first | refine AW.re 4 5 ?_ | (refine xS 8 2 ?_; refine AL.d (AOp.call rfl rfl hCount) ?_; refine xN 5 ?_) | refine AW.jt ?_ | refine AW.jf ?_ | refine AW.jj (fun hb => ?_) (fun hb => ?_) | refine AW.go ?_ | fail)
      all_goals try (exfalso; simp only [dT, dF, lM] at *; omega)
      refine AW.cut (fun af ah => ∃ v : Bool, af = [(1, .at c.av), (91, .bool v)] ∧ ah = [] ∧ v = !v2) ?_ ?_
      · repeat' (first | (refine xS 9 3 ?_; (first | refine AL.es 4 ?_ | (refine AL.gx (fun hb => ?_) (fun hb => ?_) <;> refine AL.es 4 ?_)) <;> (first | refine AL.es 3 ?_ | (refine AL.gx (fun hb => ?_) (fun hb => ?_) <;> refine AL.es 3 ?_)) <;> (first | (refine AL.gd ?_; refine AL.d (AOp.call rfl rfl hSt) ?_) | refine AL.gs ?_ | refine AL.gu ?_) <;> refine AL.es 2 ?_ <;> refine AL.nil ?_) | refine AW.jt ?_ | refine AW.jf ?_ | refine AW.jj (fun hb => ?_) (fun hb => ?_) | refine AW.go ?_ | fail)
        all_goals (refine AW.meet [1, 91] ⟨_, rfl, rfl, ?_⟩; subst hV; clear hCount hSt hT; simp only [lM, dT, dF] at *; simp_all [ofConst])
        all_goals (try omega)
      rintro af ah ⟨v, rfl, rfl, hv⟩
      cases v2 with
      | false =>
        subst hv
        repeat' (first | refine AW.re 10 1 ?_ | refine AW.jt ?_ | refine AW.jf ?_ | refine AW.jj (fun hb => ?_) (fun hb => ?_) | refine AW.go ?_ | fail)
        exact AW.retv rfl ⟨rfl, rfl⟩
      | true =>
        subst hv
        refine AW.own_nil 2 ?_
        repeat' (first | refine AW.jt ?_ | refine AW.jf ?_ | refine AW.jj (fun hb => ?_) (fun hb => ?_) | refine AW.go ?_ | fail)
        refine AW.region_at 11 ?_
        refine AL.d AOp.la ?_
        refine AL.d AOp.fa ?_
        refine AL.d AOp.la ?_
        refine AL.step rfl rfl (AOp.callV (args := [c.av, .sl (c.Body.map GStmt.av), .slt [] none 0]) rfl (fun S w a hfr => ?_) hT) ?_ (by rintro _ _ ⟨_, _, e, _⟩; cases e)
        · have h1 := aeval_rel hfr (x := .tmp 92) rfl
          have h2 := aeval_rel hfr (x := .tmp 94) rfl
          simp only [RelVs]
          exact ⟨_, _, rfl, h1.1, h1.2, _, _, rfl, h2.1, h2.2, _, _, rfl, (rel_nil (S := S) (w := w)).1, (rel_nil (S := S) (w := w)).2, rfl⟩
        rintro _ _ ⟨tb, tc, e, rfl⟩
        injection e with e
        subst e
        refine AL.e ?_
        refine AL.nil ?_
        refine AW.as_sl 6 rfl ?_
        refine AW.drop (List.nil_sublist _) ?_
        repeat' (first | refine AW.re 12 1 ?_ | refine AW.jt ?_ | refine AW.jf ?_ | refine AW.jj (fun hb => ?_) (fun hb => ?_) | refine AW.go ?_ | fail)
        refine AW.prune [6, 7] (AW.loop (fun m af h => ∃ i : Nat, i ≤ T.length ∧ m = T.length - i ∧ af = [(6, .sl (T.map GSym.av)), (7, .int .i64 i)] ∧ h = [] ∧ consT T = (T.drop i).all fun a => decide (arOf T a.Name = some a.Arity)) T.length ⟨0, Nat.zero_le _, rfl, rfl, rfl, rfl⟩ ?_)
        rintro m af h ⟨i, hi, rfl, rfl, rfl, he2⟩
        refine AW.seq ?_
        by_cases hlt : i < T.length
        · obtain ⟨x, hx⟩ := get_lt hlt
          have hx' : (T.map GSym.av)[((i : Nat) : Int).toNat]? = some x.av := map_get hx
          have hF := ref_find T x.Name (by omega)
          rw [drop_cons hx, List.all_cons] at he2
          rcases findJ_spec x.Name T 0 with ⟨e1, e2⟩ | ⟨k, a, e1, ha, -, e2⟩
          · exfalso
            unfold arOf at e2
            rw [Option.map_eq_none_iff, List.find?_eq_none] at e2
            exact e2 x (lG hx) (by simp)
          · rw [e1, Nat.zero_add] at hF
            have ha' : (T.map GSym.av)[((k : Nat) : Int).toNat]? = some a.av := map_get ha
            rw [e2] at he2
            repeat' (first | refine AW.re 13 4 ?_ | (refine xS 15 3 ?_; (first | refine AL.d (iX hx') ?_ | refine AL.d (iX ha') ?_) <;> refine AL.es 2 ?_ <;> refine AL.d (AOp.call rfl rfl hF) ?_ <;> refine AL.es 1 ?_ <;> refine AL.nil ?_) | (refine AW.dq 16 ?_; refine AQ.es 2 ?_; (first | refine AQ.p rfl (iX hx') ?_ | refine AQ.p rfl (iX ha') ?_) <;> refine AQ.es 4 ?_ <;> (first | refine AQ.p rfl (iX hx') ?_ | refine AQ.p rfl (iX ha') ?_) <;> refine AQ.es 3 ?_ <;> refine AQ.nil ?_) | refine AW.re 17 1 ?_ | (refine xS 14 1 ?_; refine AL.d AOp.ad ?_; refine xN 1 ?_) | refine AW.jt ?_ | refine AW.jf ?_ | refine AW.jj (fun hb => ?_) (fun hb => ?_) | refine AW.go ?_ | fail)
            all_goals try (exfalso; simp only [dT, dF, lM] at *; omega)
            all_goals first
              | (refine AW.retv rfl ⟨retB ?_, rfl⟩; rw [he2, decide_eq_false (show ¬ some a.Arity = some x.Arity by simpa using hb)]; simp)
              | (refine AW.again_keep (T.length - (i + 1)) [6, 7] (by omega) ⟨i + 1, hlt, rfl, rfl, rfl, ?_⟩; rw [he2, decide_eq_true (show some a.Arity = some x.Arity by simpa using hb)]; simp)
        · rw [List.drop_eq_nil_of_le (by omega)] at he2
          repeat' (first | refine AW.re 13 4 ?_ | refine AW.re 18 1 ?_ | refine AW.jt ?_ | refine AW.jf ?_ | refine AW.jj (fun hb => ?_) (fun hb => ?_) | refine AW.go ?_ | fail)
          all_goals try (exfalso; simp only [dT, dF, lM] at *; omega)
          exact AW.retv rfl ⟨by rw [he2]; rfl, rfl⟩
def RunPost (c : GCode) (s : GStr) (G : List Bool) (fuel : Int) : AEnd → AH → Prop := fun x _ => ∃ b n g e, RunR c s G fuel b n g e ∧ x = .ret (.tup [.bool b, .int .i64 n, .int .i64 g, .int .i64 e])
def runAF (c : GCode) (s : GStr) (G : List Bool) (fuel : Int) (b r1 r2 r3 r4 mb : Nat) : AF := [(2, bools G), (3, .int .i64 fuel), (4, .at c.av), (5, .at s.av), (8, .ref r1 0), (9, .ref r2 0), (10, .ref r3 0), (11, .ref r4 0), (12, .ref b 0), (15, .ref mb 0)]
def sigOf (c : GCode) (k : ByteArray) : Option Nat := match lookA (checkedP c).A k with | some a => some a.toNat | none => (lookA (checkedP c).S k).map Int.toNat
theorem perm_three (a b c : AH) : (a ++ b ++ c).Perm (c ++ (a ++ b)) := List.perm_append_comm
theorem run_t8 (c : GCode) (s : GStr) (G : List Bool) (fuel : Int) (hc : c.Ok) (hok : RunOk c s fuel) (hck : ChkOk c) (b ba bs r1 r2 r3 r4 : Nat) (gA : MG) (B : Blk)
    (hm : MFit c.Flags.toNat c.Regs.toNat (sigOf c) ⟨s.Size, G, fuel⟩ B (m0 c s)) (Fr : Rg) (w0 : World) :
    AW (CofD Tryz.prog Tryz.f12 179 Fr (reg []) w0 (RunPost c s G fuel)) [] [.c (fst1 (sndN 8 (bodyOf Tryz.f12))), .c (sndN 9 (bodyOf Tryz.f12))] (runAF c s G fuel b r1 r2 r3 r4 B.mb) ((checkedP c).ah b ba bs gA ++ resAH r1 r2 r3 r4 false 0 0 0 ++ (m0 c s).ah ⟨s.Size, G, fuel⟩ B) := by
  obtain ⟨_, _, hca, hcb1, hcb2⟩ := hc
  have hlist := mach_list (F := c.Flags.toNat) (R := c.Regs.toNat) (sig := sigOf c) (E := ⟨s.Size, G, fuel⟩) (B := B) (cntL c.Body) c.Body (Nat.le_refl _) (by omega) hcb2 hck.body
  have hall := (hlist (m0 c s) hm).behind ((checkedP c).ah b ba bs gA ++ resAH r1 r2 r3 r4 false 0 0 0)
  repeat' (first | (refine xS 32 1 ?_; refine AL.defer rfl rfl rfl ?_; refine AL.nil ?_) | refine AW.jt ?_ | refine AW.jf ?_ | refine AW.jj (fun hb => ?_) (fun hb => ?_) | refine AW.go ?_ | fail)
  refine AW.perm (perm_three _ _ _) ?_
  refine AW.region_at 33 ?_
  refine AL.ev rfl rfl rfl rfl ?_
  refine AL.det (AOp.field_at rfl rfl (by kernel_rfl) rfl) rfl rfl rfl ?_
  refine AL.det (AOp.load_at rfl rfl (by kernel_rfl)) rfl rfl rfl ?_
  refine AL.stepF rfl rfl (AOp.call rfl rfl hall) ?_ ?_
  · rintro v ah' ⟨_, ⟨o, m', hex, hfit, hle, rfl, hend⟩, rfl⟩
    cases o with
    | some e => cases hend
    | none =>
      cases hend
      refine AL.nil ?_
      refine AW.perm (perm_three _ _ _).symm ?_
      refine AW.prune [8, 9, 10, 11, 15] ?_
      refine AW.seq ?_
      have hfl := hfit.flen
      have g0 := flag_get (fl := m'.flags) (x := 0) (by have := hfit.fl; omega)
      refine AW.explore [false, false, false, true, true, true, true] [14, 15, 16, 17] rfl (by kernel_rfl) (by kernel_rfl) (by kernel_rfl) (by kernel_rfl) ?_
      repeat' (first
        | refine AQE.hole rfl rfl ?_
        | refine AQE.ev rfl rfl rfl rfl ?_
        | refine AQE.op rfl (AOp.field_ref (k := 1) (off := 1) rfl (by kernel_rfl)) rfl rfl ?_
        | refine AQE.op rfl (AOp.field_ref (k := 5) (off := 5) rfl (by kernel_rfl)) rfl rfl ?_
        | refine AQE.op rfl (AOp.field_ref (k := 6) (off := 6) rfl (by kernel_rfl)) rfl rfl ?_
        | refine AQE.op rfl (AOp.load_leaf 3 rfl rfl rfl rfl (by kernel_rfl)) rfl rfl ?_
        | refine AQE.op rfl (AOp.index_osl rfl rfl (by omega) (by have := hfit.fl; omega) (by kernel_rfl)) rfl rfl ?_
        | refine AQE.op rfl (AOp.load_cell 4 rfl rfl g0 rfl (by kernel_rfl)) rfl rfl ?_
        | refine AQE.nil ?_)
      refine AX.one (n := 3) 14 rfl ?_
      refine AXS.step (i := 14) rfl rfl rfl (AOp.store_box (i := 0) (g := false) rfl rfl rfl rfl rfl (by kernel_rfl)) ?_ (by rintro _ _ ⟨⟨_, e⟩, _⟩; cases e)
      rintro _ _ ⟨⟨_, e⟩, rfl⟩
      cases e
      dsimp only [sA, sB]
      refine AX.one (n := 2) 15 rfl ?_
      refine AXS.step (i := 15) rfl rfl rfl (AOp.store_box (i := 1) (g := false) rfl rfl rfl rfl rfl (by kernel_rfl)) ?_ (by rintro _ _ ⟨⟨_, e⟩, _⟩; cases e)
      rintro _ _ ⟨⟨_, e⟩, rfl⟩
      cases e
      dsimp only [sA, sB]
      refine AX.one (n := 1) 16 rfl ?_
      refine AXS.step (i := 16) rfl rfl rfl (AOp.store_box (i := 2) (g := false) rfl rfl rfl rfl rfl (by kernel_rfl)) ?_ (by rintro _ _ ⟨⟨_, e⟩, _⟩; cases e)
      rintro _ _ ⟨⟨_, e⟩, rfl⟩
      cases e
      dsimp only [sA, sB]
      refine AX.one (n := 0) 17 rfl ?_
      refine AXS.step (i := 17) rfl rfl rfl (AOp.store_box (i := 3) (g := false) rfl rfl rfl rfl rfl (by kernel_rfl)) ?_ (by rintro _ _ ⟨⟨_, e⟩, _⟩; cases e)
      rintro _ _ ⟨⟨_, e⟩, rfl⟩
      cases e
      dsimp only [sA, sB]
      refine AX.done [(8, .ref r1 0), (9, .ref r2 0), (10, .ref r3 0), (11, .ref r4 0)] rfl ?_
      refine AW.retD1 (cs := [.pointer (some ⟨r1, 0, none⟩), .pointer (some ⟨r2, 0, none⟩), .pointer (some ⟨r3, 0, none⟩), .pointer (some ⟨r4, 0, none⟩)]) rfl ((TriD.frame [true, true, true, true] (run_return r1 r2 r3 r4 (flagAt m'.flags 0) m'.steps m'.used 0)).mono ?_)
      rintro u' h ⟨_, ⟨rfl, rfl⟩, rfl⟩
      exact ⟨rfl, _, .cell 0 rfl rfl (by kernel_rfl) (.cell 1 rfl rfl (by kernel_rfl) (.cell 2 rfl rfl (by kernel_rfl) (.cell 3 rfl rfl (by kernel_rfl) .nil))), _, _, _, _, .ok hok hex, rfl⟩
  · rintro v ah' ⟨_, ⟨o, m', hex, hfit, hle, rfl, hend⟩, rfl⟩
    cases o with
    | none => cases hend
    | some e =>
      cases hend
      refine APanF.perm (perm_three _ _ _).symm ?_
      refine APanF.of1 (cs := [.pointer (some ⟨r1, 0, none⟩), .pointer (some ⟨r2, 0, none⟩), .pointer (some ⟨r3, 0, none⟩), .pointer (some ⟨r4, 0, none⟩)]) rfl rfl ((TriD.frame [false, false, false, true, true, true, true] (run_panic r1 r2 r3 r4 false 0 0 0 e)).mono ?_)
      rintro u' h ⟨_, ⟨rfl, rfl⟩, rfl⟩
      exact ⟨rfl, _, .cell 0 rfl rfl (by kernel_rfl) (.cell 1 rfl rfl (by kernel_rfl) (.cell 2 rfl rfl (by kernel_rfl) (.cell 3 rfl rfl (by kernel_rfl) .nil))), _, _, _, _, .stop hok hex, rfl⟩
theorem idx_spec {α : Type} (p : α → Bool) : ∀ (l : List α) (i : Nat), 0 ≤ idxFrom p l i → ∃ j x, idxFrom p l i = ((i + j : Nat) : Int) ∧ l[j]? = some x ∧ p x = true
  | [], i, h => by simp [idxFrom] at h
  | x :: l, i, h => by
    rw [idxFrom] at h ⊢
    by_cases hp : p x = true
    · rw [if_pos hp]; exact ⟨0, x, by simp, rfl, hp⟩
    · rw [if_neg hp] at h ⊢
      obtain ⟨j, y, h1, h2, h3⟩ := idx_spec p l (i + 1) h
      exact ⟨j + 1, y, by rw [h1]; omega, by simpa using h2, h3⟩
theorem find_rel {s : GStr} {k : ByteArray} {ar : Int} (h : 0 ≤ findI s k ar) : ∃ r, s.Rels[(findI s k ar).toNat]? = some r ∧ r.Name = k ∧ r.Arity = ar ∧ findI s k ar < s.Rels.length := by
  obtain ⟨j, x, h1, h2, h3⟩ := idx_spec _ _ _ h
  have h4 : findI s k ar = ((0 + j : Nat) : Int) := h1
  simp only [bA, dT] at h3
  have := (List.getElem?_eq_some_iff.1 h2).1
  exact ⟨x, by rw [h4]; simpa using h2, h3.1, h3.2, by rw [h4]; omega⟩
theorem rels_mem {n : Int} {all : List GRel} : ∀ (l : List GRel) (i : Nat), relsGo n all i l = true → ∀ r ∈ l, relB n r = true
  | [], _, _, r, h => by cases h
  | q :: l, i, h, r, hr => by
    simp only [relsGo, bA] at h
    rcases List.mem_cons.1 hr with rfl | hr
    · exact h.1.1
    · exact rels_mem l (i + 1) h.2 r hr
theorem valid_rel {s : GStr} (hv : validStr s = true) : 1 ≤ s.Size ∧ s.Size ≤ 64 ∧ ∀ r ∈ s.Rels, relB s.Size r = true := by
  simp only [validStr, bA, dT] at hv
  exact ⟨hv.1.1.1, hv.1.1.2, rels_mem _ _ hv.2⟩
theorem rel_power {n : Int} (h1 : 1 ≤ n) (h2 : n ≤ 64) {r : GRel} (h : relB n r = true) : (powerR n r.Arity).2 = 0 ∧ 0 ≤ r.Arity ∧ r.Arity ≤ 12 := by
  simp only [relB, bA, dT] at h
  refine ⟨?_, h.1.1.1.2, h.1.1.2⟩
  unfold powerR
  rw [if_neg (by omega), if_neg (by omega)]
theorem power_val {n k : Int} (h : (powerR n k).2 = 0) : (powerR n k).1 = n ^ k.toNat ∧ n ^ k.toNat ≤ 4096 ∧ 0 ≤ n ^ k.toNat := by
  obtain ⟨g1, g2, g3, g4, g5⟩ := powerR_ok h
  have e := powGo_eq g1 k.toNat 1 (by omega) (by omega) g5
  rw [Int.one_mul] at e
  refine ⟨?_, e.2, Int.pow_nonneg (by omega)⟩
  unfold powerR at h ⊢
  rw [if_neg (by omega)] at h ⊢
  rw [if_neg (by omega)]
  exact e.1
theorem tup_mem {n ar : Int} : ∀ (l : List (List Int)) (p : Option (List Int)), tupGo n ar p l = true → ∀ t ∈ l, (t.length : Int) = ar ∧ elemsB n t = true
  | [], p, h, t, ht => by cases ht
  | q :: l, p, h, t, ht => by
    rw [tupGo_cons] at h
    simp only [bA, dT] at h
    rcases List.mem_cons.1 ht with rfl | ht
    · exact ⟨h.1.1.1, h.1.1.2⟩
    · exact tup_mem l _ h.2 t ht
theorem rankGo_bd {n : Int} (hn : 1 ≤ n) : ∀ (l : List Int) (r : Int) (i : Nat), (∀ x ∈ l, 0 ≤ x ∧ x < n) → 0 ≤ r → r < n ^ i → 0 ≤ rankGo n l r ∧ rankGo n l r < n ^ (i + l.length)
  | [], r, i, _, h0, h1 => ⟨h0, by simpa [rankGo] using h1⟩
  | x :: l, r, i, hl, h0, h1 => by
    have hb := hl x (by simp)
    have h2 : 0 ≤ r * n := Int.mul_nonneg h0 (by omega)
    have h3 : r * n + n ≤ n ^ (i + 1) := by
      rw [Int.pow_succ]
      have := Int.mul_le_mul_of_nonneg_right (show r + 1 ≤ n ^ i by omega) (show 0 ≤ n by omega)
      rw [Int.add_mul] at this; omega
    have := rankGo_bd hn l (r * n + x) (i + 1) (fun y hy => hl y (by simp [hy])) (by omega) (by omega)
    rw [rankGo, show i + (x :: l).length = i + 1 + l.length by simp; omega]
    exact this
theorem rank_bd {n : Int} {r : GRel} (h1 : 1 ≤ n) (h2 : n ≤ 64) (h : relB n r = true) {t : List Int} (ht : t ∈ r.Tuples) : 0 ≤ (rankR n t).1 ∧ (rankR n t).1 < n ^ r.Arity.toNat := by
  have hp := rel_power h1 h2 h
  simp only [relB, bA, dT] at h
  obtain ⟨g1, g2⟩ := tup_mem _ _ h.2 t ht
  have g3 := rankGo_bd h1 t 0 0 (elems_mem g2) (by omega) (by simp)
  have g4 : rankR n t = (rankGo n t 0, 0) := by
    unfold rankR
    rw [g1, if_pos hp.1, if_pos g2]
  rw [g4]
  rw [Nat.zero_add, show t.length = r.Arity.toNat by omega] at g3
  exact g3
theorem tabGo_len (n : Int) : ∀ (l : List (List Int)) (xs : List Bool), (tabGo n l xs).length = xs.length
  | [], xs => rfl
  | t :: l, xs => by rw [tabGo, tabGo_len n l]; simp
theorem setA_new {α : Type} : ∀ {A : List (ByteArray × α)} {k : ByteArray} {v : α}, k ∉ A.map (·.1) → setA A k v = A ++ [(k, v)]
  | [], k, v, _ => rfl
  | (k', w) :: A, k, v, h => by
    simp only [List.map_cons, List.mem_cons, not_or] at h
    rw [setA, if_neg h.1, setA_new h.2]; rfl
def Blk.add (B : Blk) (k : ByteArray) (nb : Nat) (g : MG) : Blk := { B with names := B.names ++ [k], bk := fun x => if x = k then nb else B.bk x, gl := g }
theorem ah_new (E : Env) (B : Blk) (m : MS) (X : AH) {k : ByteArray} (hk : k ∉ B.names) (nb : Nat) (xs : List Bool) (n : Nat) (hn : n = xs.length) (ys : List AV) (hys : ys = xs.map bav) :
    (Own.row nb ys :: Own.map B.lb (mset (kvW oslv (relA B m)) (.str k) (.osl nb n n)) (gset (kvW oslv (relA B m)) B.gl (.str k)) :: (X ++ (Own.box B.mb (m.box E B) :: .row B.fb (m.flags.map bav) :: .row B.rb (m.regs.map iav) :: .map B.ub runKV B.gu :: B.names.map fun k => .row (B.bk k) ((m.rels k).map bav)))).Perm
      (X ++ ({ m with rels := upd m.rels k xs } : MS).ah E (B.add k nb (gset (kvW oslv (relA B m)) B.gl (.str k)))) := by
  subst hys
  have e1 : mset (kvW oslv (relA B m)) (.str k) (.osl nb n n) = kvW oslv (relA (B.add k nb (gset (kvW oslv (relA B m)) B.gl (.str k))) { m with rels := upd m.rels k xs }) := by
    have : mset (kvW oslv (relA B m)) (.str k) (oslv (nb, n)) = kvW oslv (setA (relA B m) k (nb, n)) := mset_kvW _
    refine this.trans ?_
    rw [setA_new (by unfold relA; simpa using hk)]
    congr 1
    unfold relA Blk.add
    simp only [List.map_append, List.map_cons, List.map_nil, upd_same, if_pos, hn]
    congr 1
    refine List.map_congr_left fun a ha => ?_
    have hak : a ≠ k := fun e => hk (e ▸ ha)
    simp [upd_ne _ _ hak, hak]
  have e2 : (B.add k nb (gset (kvW oslv (relA B m)) B.gl (.str k))).names.map (fun a => Own.row ((B.add k nb (gset (kvW oslv (relA B m)) B.gl (.str k))).bk a) ((upd m.rels k xs a).map bav)) = (B.names.map fun k => Own.row (B.bk k) ((m.rels k).map bav)) ++ [Own.row nb (xs.map bav)] := by
    unfold Blk.add
    simp only [List.map_append, List.map_cons, List.map_nil, upd_same, if_pos]
    congr 1
    refine List.map_congr_left fun a ha => ?_
    have hak : a ≠ k := fun e => hk (e ▸ ha)
    simp [upd_ne _ _ hak, hak]
  have e3 : ({ m with rels := upd m.rels k xs } : MS).ah E (B.add k nb (gset (kvW oslv (relA B m)) B.gl (.str k))) = Own.box B.mb (m.box E B) :: .row B.fb (m.flags.map bav) :: .row B.rb (m.regs.map iav) :: .map B.lb (mset (kvW oslv (relA B m)) (.str k) (.osl nb n n)) (gset (kvW oslv (relA B m)) B.gl (.str k)) :: .map B.ub runKV B.gu :: ((B.names.map fun k => Own.row (B.bk k) ((m.rels k).map bav)) ++ [Own.row nb (xs.map bav)]) := by
    rw [← e2, e1]; rfl
  rw [e3]
  generalize Own.row nb (xs.map bav) = rw
  generalize Own.map B.lb (mset (kvW oslv (relA B m)) (.str k) (.osl nb n n)) (gset (kvW oslv (relA B m)) B.gl (.str k)) = mp
  generalize (B.names.map fun k => Own.row (B.bk k) ((m.rels k).map bav)) = Rs
  generalize Own.box B.mb (m.box E B) = x1
  generalize Own.row B.fb (m.flags.map bav) = x2
  generalize Own.row B.rb (m.regs.map iav) = x3
  generalize Own.map B.ub runKV B.gu = x4
  refine (List.perm_append_singleton rw (mp :: (X ++ (x1 :: x2 :: x3 :: x4 :: Rs)))).symm.trans ?_
  refine (List.Perm.append_right [rw] (show (mp :: (X ++ (x1 :: x2 :: x3 :: x4 :: Rs))).Perm ((X ++ [x1, x2, x3]) ++ mp :: (x4 :: Rs)) from ?_)).trans ?_
  · have := (List.perm_middle (a := mp) (l₁ := X ++ [x1, x2, x3]) (l₂ := x4 :: Rs)).symm
    simpa using this
  · simp
theorem ref_Among (l : List ByteArray) (s : ByteArray) (hl : l.length ≤ 4611686018427387904) : Tri Tryz.prog 44 [strs l, .str s] [] (D (.bool (l.any fun x => decide (x = s))) []) := by
  refine Tri.enter 18 Tryz.func44 rfl rfl rfl rfl fun Fr w0 => ?_
  repeat' (first | refine AW.re 0 1 ?_ | refine AW.re 1 1 ?_ | refine AW.jt ?_ | refine AW.jf ?_ | refine AW.jj (fun hb => ?_) (fun hb => ?_) | refine AW.go ?_ | fail)
  refine AW.prune [0, 1, 5] (AW.loop (fun mz af h => ∃ (i : Nat), i ≤ l.length ∧ mz = l.length - i ∧ af = [(0, strs l), (1, .str s), (5, .int .i64 i)] ∧ h = [] ∧ (l.any fun x => decide (x = s)) = ((l.drop i).any fun x => decide (x = s))) l.length ⟨0, Nat.zero_le _, rfl, rfl, rfl, rfl⟩ ?_)
  rintro mz af h ⟨i, hi, rfl, rfl, rfl, he⟩
  refine AW.seq ?_
  by_cases hlt : i < l.length
  · obtain ⟨x, hx⟩ := get_lt hlt
    have hx' : (l.map AV.str)[((i : Nat) : Int).toNat]? = some (.str x) := map_get hx
    rw [drop_cons hx, List.any_cons] at he
    repeat' (first | refine AW.re 2 4 ?_ | (refine xS 4 2 ?_; refine AL.d (iX hx') ?_; refine xN 3 ?_) | refine AW.re 5 1 ?_ | (refine xS 3 1 ?_; refine AL.d AOp.ad ?_; refine xN 1 ?_) | refine AW.jt ?_ | refine AW.jf ?_ | refine AW.jj (fun hb => ?_) (fun hb => ?_) | refine AW.go ?_ | fail)
    all_goals try (exfalso; simp only [dT, dF, lM] at *; omega)
    all_goals rw [toList_beq] at hb
    · exact AW.retv rfl ⟨by rw [he, hb]; rfl, rfl⟩
    · refine AW.again_keep (l.length - (i + 1)) [0, 1, 5] (by omega) ⟨i + 1, hlt, rfl, rfl, rfl, ?_⟩
      rw [he, hb]; rfl
  · rw [List.drop_eq_nil_of_le (by omega)] at he
    repeat' (first | refine AW.re 2 4 ?_ | refine AW.re 6 1 ?_ | refine AW.jt ?_ | refine AW.jf ?_ | refine AW.jj (fun hb => ?_) (fun hb => ?_) | refine AW.go ?_ | fail)
    all_goals try (exfalso; simp only [dT, dF, lM] at *; omega)
    exact AW.retv rfl ⟨by rw [he]; rfl, rfl⟩
def lessB (s t : ByteArray) : Bool := Op.bytesLess s.toList t.toList
def risP : List ByteArray → ByteArray → List ByteArray
  | [], s => [s]
  | x :: l, s => if lessB x s = true then x :: risP l s else if x = s then x :: l else s :: x :: l
theorem risP_len : ∀ (l : List ByteArray) (s : ByteArray), (risP l s).length ≤ l.length + 1
  | [], s => by simp [risP]
  | x :: l, s => by
    have := risP_len l s
    rw [risP]; split
    · simp; omega
    · split <;> simp
theorem risP_mem : ∀ (l : List ByteArray) (s x : ByteArray), x ∈ risP l s ↔ x = s ∨ x ∈ l
  | [], s, x => by simp [risP]
  | y :: l, s, x => by
    have := risP_mem l s x
    rw [risP]; split
    · simp only [List.mem_cons, this]; constructor
      · rintro (h | h | h) <;> simp [h]
      · rintro (h | h | h) <;> simp [h]
    · split
      · rename_i h; subst h; simp
      · simp
theorem str_sz (l : List ByteArray) : ∀ x ∈ l.map AV.str, x.size = 1 := all_map fun _ => rfl
theorem ref_rising (l : List ByteArray) (s : ByteArray) (hl : l.length ≤ 1000000) : Tri Tryz.prog 45 [strs l, .str s] [] (D (strs (risP l s)) []) := by
  refine Tri.enter 45 Tryz.func45 rfl rfl rfl rfl fun Fr w0 => ?_
  repeat' (first | refine AW.re 0 1 ?_ | refine AW.re 1 1 ?_ | refine AW.jt ?_ | refine AW.jf ?_ | refine AW.jj (fun hb => ?_) (fun hb => ?_) | refine AW.go ?_ | fail)
  refine AW.prune [0, 1, 5] (AW.loop (fun mz af h => ∃ (i : Nat), i ≤ l.length ∧ mz = l.length - i ∧ af = [(0, strs l), (1, .str s), (5, .int .i64 i)] ∧ h = [] ∧ risP l s = l.take i ++ risP (l.drop i) s) l.length ⟨0, Nat.zero_le _, rfl, rfl, rfl, rfl⟩ ?_)
  rintro mz af h ⟨i, hi, rfl, rfl, rfl, he⟩
  refine AW.seq ?_
  by_cases hlt : i < l.length
  · obtain ⟨x, hx⟩ := get_lt hlt
    have hx' : (l.map AV.str)[((i : Nat) : Int).toNat]? = some (.str x) := map_get hx
    have htk : l.take (i + 1) = l.take i ++ [x] := by rw [List.take_add_one, hx]; rfl
    rw [drop_cons hx, risP] at he
    change risP l s = l.take i ++ if Op.bytesLess x.toList s.toList = true then x :: risP (l.drop (i + 1)) s else if x = s then x :: l.drop (i + 1) else s :: x :: l.drop (i + 1) at he
    repeat' (first | (refine xS 2 5 ?_; (first | refine AL.es 2 ?_ | (refine AL.gx (fun hb => ?_) (fun hb => ?_) <;> refine AL.es 2 ?_)) <;> (first | (refine AL.gd ?_; refine AL.d (iX hx') ?_) | refine AL.gs ?_ | refine AL.gu ?_) <;> refine AL.es 4 ?_ <;> refine AL.nil ?_) | (refine xS 3 1 ?_; refine AL.d AOp.ad ?_; refine xN 1 ?_) | (refine xS 4 5 ?_; (first | refine AL.es 2 ?_ | (refine AL.gx (fun hb => ?_) (fun hb => ?_) <;> refine AL.es 2 ?_)) <;> (first | (refine AL.gd ?_; refine AL.d (iX hx') ?_) | refine AL.gs ?_ | refine AL.gu ?_) <;> refine AL.es 4 ?_ <;> refine AL.nil ?_) | refine AW.re 5 2 ?_ | refine AW.jt ?_ | refine AW.jf ?_ | refine AW.jj (fun hb => ?_) (fun hb => ?_) | refine AW.go ?_ | fail)
    all_goals try (exfalso; simp only [dT, dF, lM] at *; omega)
    · refine AW.again_keep (l.length - (i + 1)) [0, 1, 5] (by omega) ⟨i + 1, hlt, rfl, rfl, rfl, ?_⟩
      rw [he, if_pos hb, htk]; simp
    · rename_i h1 _
      rw [toList_beq, dT] at hb
      rw [if_neg (by rw [h1]; simp), if_pos hb, ← drop_cons hx, List.take_append_drop] at he
      exact AW.retv rfl ⟨by rw [he], rfl⟩
    · rename_i h1 _
      rw [toList_beq, dF] at hb
      rw [if_neg (by rw [h1]; simp), if_neg hb] at he
      repeat' (first | (refine AW.ex 6 [] [0, 4, 7, 11, 12] ?_; refine AQE.hl ?_; refine AQE.e ?_; refine AQE.e ?_; (first | (refine AQE.p rfl (AOp.cut (sz := 1) rfl rfl (by kernel_rfl) (str_sz _) bndIs.none (bndIs.some (n := i) rfl (by omega)) (by omega) (by simp; omega)) ?_) | (refine AQE.p rfl (AOp.cut (sz := 1) rfl rfl (by kernel_rfl) (str_sz _) (bndIs.some (n := i) rfl (by omega)) bndIs.none (by simp; omega) (by omega)) ?_)) <;> refine AQE.hl ?_ <;> refine AQE.e ?_ <;> refine AQE.p rfl (AOp.lit (e := 9) (sz := 1) (by kernel_rfl) rfl rfl rfl (P_one rfl) (by decide)) ?_ <;> refine AQE.hl ?_ <;> refine AQE.e ?_ <;> refine AQE.e ?_ <;> (first | (refine AQE.p rfl (AOp.cut (sz := 1) rfl rfl (by kernel_rfl) (str_sz _) bndIs.none (bndIs.some (n := i) rfl (by omega)) (by omega) (by simp; omega)) ?_) | (refine AQE.p rfl (AOp.cut (sz := 1) rfl rfl (by kernel_rfl) (str_sz _) (bndIs.some (n := i) rfl (by omega)) bndIs.none (by simp; omega) (by omega)) ?_)) <;> refine AQE.hl ?_ <;> refine AQE.hl ?_ <;> refine AQE.nil ?_ <;> refine AX.o (n := 4) 0 ?_ <;> (first | refine AXO.lit_own (e := 9) (sz := 1) (by kernel_rfl) rfl rfl rfl P_nil (by decide) fun b0 => ?_ | refine AXO.d (AOp.lit (e := 9) (sz := 1) (by kernel_rfl) rfl rfl rfl (P_one rfl) (by decide)) ?_) <;> try dsimp only [sA, sB, sC, sD] <;> refine AX.o (n := 3) 4 ?_ <;> refine AXO.append (i := 0) (e := 9) (sz := 1) (bytes := 16) rfl rfl rfl rfl (by kernel_rfl) (by kernel_rfl) (by repeat' (first | exact P_nil | refine P_app ?_ ?_ | refine P_take ?_ | refine P_drop ?_ | exact P_map fun _ => rfl | exact P_one rfl | exact P_rep rfl)) (by repeat' (first | exact P_nil | refine P_app ?_ ?_ | refine P_take ?_ | refine P_drop ?_ | exact P_map fun _ => rfl | exact P_one rfl | exact P_rep rfl)) (ok_all (by repeat' (first | exact P_nil | refine P_app ?_ ?_ | refine P_take ?_ | refine P_drop ?_ | exact P_map fun _ => rfl | exact P_one rfl | exact P_rep rfl))) (by (try simp only [lA, lM, List.length_take, List.length_drop, List.length_cons, List.length_nil, List.length_replicate]); omega) (by (try simp only [lA, lM, List.length_take, List.length_drop, List.length_cons, List.length_nil, List.length_replicate]); omega) rfl fun b' c' => ?_ <;> try dsimp only [sA, sB, sC, sD] <;> refine AX.o (n := 2) 7 ?_ <;> refine AXO.append (i := 0) (e := 9) (sz := 1) (bytes := 16) rfl rfl rfl rfl (by kernel_rfl) (by kernel_rfl) (by repeat' (first | exact P_nil | refine P_app ?_ ?_ | refine P_take ?_ | refine P_drop ?_ | exact P_map fun _ => rfl | exact P_one rfl | exact P_rep rfl)) (by repeat' (first | exact P_nil | refine P_app ?_ ?_ | refine P_take ?_ | refine P_drop ?_ | exact P_map fun _ => rfl | exact P_one rfl | exact P_rep rfl)) (ok_all (by repeat' (first | exact P_nil | refine P_app ?_ ?_ | refine P_take ?_ | refine P_drop ?_ | exact P_map fun _ => rfl | exact P_one rfl | exact P_rep rfl))) (by (try simp only [lA, lM, List.length_take, List.length_drop, List.length_cons, List.length_nil, List.length_replicate]); omega) (by (try simp only [lA, lM, List.length_take, List.length_drop, List.length_cons, List.length_nil, List.length_replicate]); omega) rfl fun b' c' => ?_ <;> try dsimp only [sA, sB, sC, sD] <;> refine AX.o (n := 1) 11 ?_ <;> refine AXO.append (i := 0) (e := 9) (sz := 1) (bytes := 16) rfl rfl rfl rfl (by kernel_rfl) (by kernel_rfl) (by repeat' (first | exact P_nil | refine P_app ?_ ?_ | refine P_take ?_ | refine P_drop ?_ | exact P_map fun _ => rfl | exact P_one rfl | exact P_rep rfl)) (by repeat' (first | exact P_nil | refine P_app ?_ ?_ | refine P_take ?_ | refine P_drop ?_ | exact P_map fun _ => rfl | exact P_one rfl | exact P_rep rfl)) (ok_all (by repeat' (first | exact P_nil | refine P_app ?_ ?_ | refine P_take ?_ | refine P_drop ?_ | exact P_map fun _ => rfl | exact P_one rfl | exact P_rep rfl))) (by (try simp only [lA, lM, List.length_take, List.length_drop, List.length_cons, List.length_nil, List.length_replicate]); omega) (by (try simp only [lA, lM, List.length_take, List.length_drop, List.length_cons, List.length_nil, List.length_replicate]); omega) rfl fun b' c' => ?_ <;> try dsimp only [sA, sB, sC, sD] <;> refine AX.o (n := 0) 12 ?_ <;> refine AXO.e ?_ <;> try dsimp only [sA, sB, sC, sD] <;> refine AX.done_keep [0, 1, 4, 5, 6, 7, 8, 9, 10, 11, 12, 13, 14, 15, 16, 17, 18, 19, 20, 21, 22, 23, 24, 25, 26, 27, 28, 29, 30, 31, 32] ?_) | refine AW.jt ?_ | refine AW.jf ?_ | refine AW.jj (fun hb => ?_) (fun hb => ?_) | refine AW.go ?_ | fail)
      refine AW.as_sl 4 rfl ?_
      refine AW.ret_drop rfl (List.nil_sublist _) ⟨?_, rfl⟩
      rw [he]
      show AEnd.ret (AV.sl _) = AEnd.ret (AV.sl _)
      congr 2
      rw [← drop_cons hx, List.take_of_length_le (show (l.map AV.str).length ≤ (l.map AV.str).length from Nat.le_refl _)]
      simp [List.map_take, List.map_drop]
  · rw [List.drop_eq_nil_of_le (by omega), risP] at he
    repeat' (first | (refine xS 2 5 ?_; (first | refine AL.es 2 ?_ | (refine AL.gx (fun hb => ?_) (fun hb => ?_) <;> refine AL.es 2 ?_)) <;> (first | (refine AL.gd ?_; (exfalso; simp only [dT, dF, lM, bne_iff_ne, ne_eq, bne_eq_false_iff_eq, beq_iff_eq, beq_eq_false_iff_ne] at *; omega)) | refine AL.gs ?_ | refine AL.gu ?_) <;> refine AL.es 4 ?_ <;> refine AL.nil ?_) | (refine xS 4 5 ?_; (first | refine AL.es 2 ?_ | (refine AL.gx (fun hb => ?_) (fun hb => ?_) <;> refine AL.es 2 ?_)) <;> (first | (refine AL.gd ?_; (exfalso; simp only [dT, dF, lM, bne_iff_ne, ne_eq, bne_eq_false_iff_eq, beq_iff_eq, beq_eq_false_iff_ne] at *; omega)) | refine AL.gs ?_ | refine AL.gu ?_) <;> refine AL.es 4 ?_ <;> refine AL.nil ?_) | refine AW.jt ?_ | refine AW.jf ?_ | refine AW.jj (fun hb => ?_) (fun hb => ?_) | refine AW.go ?_ | fail)
    all_goals try (exfalso; simp only [dT, dF, lM] at *; omega)
    repeat' (first | (refine AW.ex 6 [] [0, 4, 7, 11, 12] ?_; refine AQE.hl ?_; refine AQE.e ?_; refine AQE.e ?_; (first | (refine AQE.p rfl (AOp.cut (sz := 1) rfl rfl (by kernel_rfl) (str_sz _) bndIs.none (bndIs.some (n := i) rfl (by omega)) (by omega) (by simp; omega)) ?_) | (refine AQE.p rfl (AOp.cut (sz := 1) rfl rfl (by kernel_rfl) (str_sz _) (bndIs.some (n := i) rfl (by omega)) bndIs.none (by simp; omega) (by omega)) ?_)) <;> refine AQE.hl ?_ <;> refine AQE.e ?_ <;> refine AQE.p rfl (AOp.lit (e := 9) (sz := 1) (by kernel_rfl) rfl rfl rfl (P_one rfl) (by decide)) ?_ <;> refine AQE.hl ?_ <;> refine AQE.e ?_ <;> refine AQE.e ?_ <;> (first | (refine AQE.p rfl (AOp.cut (sz := 1) rfl rfl (by kernel_rfl) (str_sz _) bndIs.none (bndIs.some (n := i) rfl (by omega)) (by omega) (by simp; omega)) ?_) | (refine AQE.p rfl (AOp.cut (sz := 1) rfl rfl (by kernel_rfl) (str_sz _) (bndIs.some (n := i) rfl (by omega)) bndIs.none (by simp; omega) (by omega)) ?_)) <;> refine AQE.hl ?_ <;> refine AQE.hl ?_ <;> refine AQE.nil ?_ <;> refine AX.o (n := 4) 0 ?_ <;> (first | refine AXO.lit_own (e := 9) (sz := 1) (by kernel_rfl) rfl rfl rfl P_nil (by decide) fun b0 => ?_ | refine AXO.d (AOp.lit (e := 9) (sz := 1) (by kernel_rfl) rfl rfl rfl (P_one rfl) (by decide)) ?_) <;> try dsimp only [sA, sB, sC, sD] <;> refine AX.o (n := 3) 4 ?_ <;> refine AXO.append (i := 0) (e := 9) (sz := 1) (bytes := 16) rfl rfl rfl rfl (by kernel_rfl) (by kernel_rfl) (by repeat' (first | exact P_nil | refine P_app ?_ ?_ | refine P_take ?_ | refine P_drop ?_ | exact P_map fun _ => rfl | exact P_one rfl | exact P_rep rfl)) (by repeat' (first | exact P_nil | refine P_app ?_ ?_ | refine P_take ?_ | refine P_drop ?_ | exact P_map fun _ => rfl | exact P_one rfl | exact P_rep rfl)) (ok_all (by repeat' (first | exact P_nil | refine P_app ?_ ?_ | refine P_take ?_ | refine P_drop ?_ | exact P_map fun _ => rfl | exact P_one rfl | exact P_rep rfl))) (by (try simp only [lA, lM, List.length_take, List.length_drop, List.length_cons, List.length_nil, List.length_replicate]); omega) (by (try simp only [lA, lM, List.length_take, List.length_drop, List.length_cons, List.length_nil, List.length_replicate]); omega) rfl fun b' c' => ?_ <;> try dsimp only [sA, sB, sC, sD] <;> refine AX.o (n := 2) 7 ?_ <;> refine AXO.append (i := 0) (e := 9) (sz := 1) (bytes := 16) rfl rfl rfl rfl (by kernel_rfl) (by kernel_rfl) (by repeat' (first | exact P_nil | refine P_app ?_ ?_ | refine P_take ?_ | refine P_drop ?_ | exact P_map fun _ => rfl | exact P_one rfl | exact P_rep rfl)) (by repeat' (first | exact P_nil | refine P_app ?_ ?_ | refine P_take ?_ | refine P_drop ?_ | exact P_map fun _ => rfl | exact P_one rfl | exact P_rep rfl)) (ok_all (by repeat' (first | exact P_nil | refine P_app ?_ ?_ | refine P_take ?_ | refine P_drop ?_ | exact P_map fun _ => rfl | exact P_one rfl | exact P_rep rfl))) (by (try simp only [lA, lM, List.length_take, List.length_drop, List.length_cons, List.length_nil, List.length_replicate]); omega) (by (try simp only [lA, lM, List.length_take, List.length_drop, List.length_cons, List.length_nil, List.length_replicate]); omega) rfl fun b' c' => ?_ <;> try dsimp only [sA, sB, sC, sD] <;> refine AX.o (n := 1) 11 ?_ <;> refine AXO.append (i := 0) (e := 9) (sz := 1) (bytes := 16) rfl rfl rfl rfl (by kernel_rfl) (by kernel_rfl) (by repeat' (first | exact P_nil | refine P_app ?_ ?_ | refine P_take ?_ | refine P_drop ?_ | exact P_map fun _ => rfl | exact P_one rfl | exact P_rep rfl)) (by repeat' (first | exact P_nil | refine P_app ?_ ?_ | refine P_take ?_ | refine P_drop ?_ | exact P_map fun _ => rfl | exact P_one rfl | exact P_rep rfl)) (ok_all (by repeat' (first | exact P_nil | refine P_app ?_ ?_ | refine P_take ?_ | refine P_drop ?_ | exact P_map fun _ => rfl | exact P_one rfl | exact P_rep rfl))) (by (try simp only [lA, lM, List.length_take, List.length_drop, List.length_cons, List.length_nil, List.length_replicate]); omega) (by (try simp only [lA, lM, List.length_take, List.length_drop, List.length_cons, List.length_nil, List.length_replicate]); omega) rfl fun b' c' => ?_ <;> try dsimp only [sA, sB, sC, sD] <;> refine AX.o (n := 0) 12 ?_ <;> refine AXO.e ?_ <;> try dsimp only [sA, sB, sC, sD] <;> refine AX.done_keep [0, 1, 4, 5, 6, 7, 8, 9, 10, 11, 12, 13, 14, 15, 16, 17, 18, 19, 20, 21, 22, 23, 24, 25, 26, 27, 28, 29, 30, 31, 32] ?_) | refine AW.jt ?_ | refine AW.jf ?_ | refine AW.jj (fun hb => ?_) (fun hb => ?_) | refine AW.go ?_ | fail)
    refine AW.as_sl 4 rfl ?_
    refine AW.ret_drop rfl (List.nil_sublist _) ⟨?_, rfl⟩
    rw [he]
    show AEnd.ret (AV.sl _) = AEnd.ret (AV.sl _)
    congr 2
    have : i = l.length := by omega
    subst this
    simp [List.take_of_length_le]
def empS : ByteArray := ⟨#[]⟩
def condA (a : GSym) : AV := .st [.int .i64 0, .bool false, .st [.str a.Name, .sl (List.replicate a.Arity.toNat (.str empS))]]
def ruleA (T : List GSym) : AV := .st [.st [.str empS, .sl []], .sl (T.map condA)]
def atomsP (T : List GSym) : List GSym := ⟨empS, 0⟩ :: T
def symOkT (T : List GSym) : Prop := T.length ≤ 100000 ∧ ∀ a ∈ T, 0 ≤ a.Arity ∧ a.Arity ≤ 1000
theorem ref_Defined (T : List GSym) : Tri Tryz.prog 42 [.sl [ruleA T]] [] (D (strs [empS]) []) := by
  have hR := ref_rising [] empS (by simp)
  refine Tri.enter 20 Tryz.func42 rfl rfl rfl rfl fun Fr w0 => ?_
  repeat' (first | refine AW.re 0 1 ?_ | refine AW.re 1 1 ?_ | refine AW.re 2 1 ?_ | refine AW.jt ?_ | refine AW.jf ?_ | refine AW.jj (fun hb => ?_) (fun hb => ?_) | refine AW.go ?_ | fail)
  refine AW.prune [0, 3, 4] (AW.loop (fun mz af h => ∃ (i : Nat) (l : List ByteArray), i ≤ 1 ∧ mz = 1 - i ∧ af = [(0, .sl [ruleA T]), (3, strs l), (4, .int .i64 i)] ∧ h = [] ∧ l = (if i = 0 then [] else [empS])) 1 ⟨0, [], Nat.zero_le _, rfl, rfl, rfl, rfl⟩ ?_)
  rintro mz af h ⟨i, l, hi, rfl, rfl, rfl, he⟩
  refine AW.seq ?_
  by_cases hlt : i < 1
  · obtain rfl : i = 0 := by omega
    rw [if_pos rfl] at he
    subst he
    have hx' : [ruleA T][((0 : Nat) : Int).toNat]? = some (.st [.st [.str empS, .sl []], .sl (T.map condA)]) := rfl
    repeat' (first | refine AW.re 3 4 ?_ | (refine xS 5 3 ?_; refine AL.d (iX hx') ?_; refine AL.es 3 ?_; refine AL.d (AOp.call rfl rfl hR) ?_; refine xN 1 ?_) | (refine xS 4 1 ?_; refine AL.d AOp.ad ?_; refine xN 1 ?_) | refine AW.jt ?_ | refine AW.jf ?_ | refine AW.jj (fun hb => ?_) (fun hb => ?_) | refine AW.go ?_ | fail)
    all_goals try (exfalso; simp only [dT, dF, lM] at *; omega)
    exact AW.again_keep (1 - (0 + 1)) [0, 3, 4] (by omega) ⟨0 + 1, [empS], hlt, rfl, rfl, rfl, rfl⟩
  · rw [if_neg (by omega)] at he
    subst he
    repeat' (first | refine AW.re 3 4 ?_ | refine AW.re 6 2 ?_ | refine AW.jt ?_ | refine AW.jf ?_ | refine AW.jj (fun hb => ?_) (fun hb => ?_) | refine AW.go ?_ | fail)
    all_goals try (exfalso; simp only [dT, dF, lM, List.length_cons, List.length_nil] at *; omega)
    exact AW.retv rfl ⟨rfl, rfl⟩
theorem ref_atoms (T : List GSym) (hT : symOkT T) : Tri Tryz.prog 43 [.sl [ruleA T]] [] (D (.sl ((atomsP T).map GSym.av)) []) := by
  obtain ⟨hTl, hTa⟩ := hT
  refine Tri.enter 63 Tryz.func43 rfl rfl rfl rfl fun Fr w0 => ?_
  refine AW.own_nil 2 ?_
  repeat' (first | (refine AW.r 0 ?_; (first | refine AL.d AOp.assign_nil ?_ | refine AL.e ?_) <;> refine AL.nil ?_) | (refine AW.r 1 ?_; (first | refine AL.d AOp.assign_nil ?_ | refine AL.e ?_) <;> refine AL.nil ?_) | (refine AW.r 2 ?_; (first | refine AL.d AOp.assign_nil ?_ | refine AL.e ?_) <;> refine AL.nil ?_) | refine AW.jt ?_ | refine AW.jf ?_ | refine AW.jj (fun hb => ?_) (fun hb => ?_) | refine AW.go ?_ | fail)
  refine AW.prune [0, 3, 4] (AW.loop (fun mz af h => ∃ (i : Nat) (out : List GSym) (tb : Option Nat) (tc : Nat), i ≤ 1 ∧ mz = 1 - i ∧ af = [(0, .sl [ruleA T]), (3, .slt (out.map GSym.av) tb tc), (4, .int .i64 i)] ∧ h = [.tail tb (out.map GSym.av).length tc 2] ∧ out = (if i = 0 then [] else atomsP T)) 1 ⟨0, [], none, 0, Nat.zero_le _, rfl, rfl, rfl, rfl⟩ ?_)
  rintro mz af h ⟨i, out, tb, tc, hi, rfl, rfl, rfl, he⟩
  refine AW.seq ?_
  by_cases hlt : i < 1
  · obtain rfl : i = 0 := by omega
    rw [if_pos rfl] at he
    subst he
    have hx' : [ruleA T][((0 : Nat) : Int).toNat]? = some (.st [.st [.str empS, .sl []], .sl (T.map condA)]) := rfl
    repeat' (first | refine AW.re 3 4 ?_ | refine AW.jt ?_ | refine AW.jf ?_ | refine AW.jj (fun hb => ?_) (fun hb => ?_) | refine AW.go ?_ | fail)
    all_goals try (exfalso; simp only [dT, dF, List.length_cons, List.length_nil] at *; omega)
    repeat' (first | (refine AW.ex 5 [true] [16, 17] ?_; refine AQE.e ?_; refine AQE.e ?_; refine AQE.e ?_; refine AQE.p rfl (iX hx') ?_; (first | refine AQE.p rfl AOp.fa ?_ | refine AQE.p rfl (AOp.fr 0) ?_) <;> (first | refine AQE.p rfl AOp.fa ?_ | refine AQE.p rfl (AOp.fr 0) ?_) <;> refine AQE.p rfl AOp.la ?_ <;> refine AQE.e ?_ <;> refine AQE.e ?_ <;> refine AQE.p rfl (iX hx') ?_ <;> (first | refine AQE.p rfl AOp.fa ?_ | refine AQE.p rfl (AOp.fr 0) ?_) <;> (first | refine AQE.p rfl AOp.fa ?_ | refine AQE.p rfl (AOp.fr 1) ?_) <;> refine AQE.p rfl AOp.la ?_ <;> refine AQE.p rfl AOp.ln ?_ <;> refine AQE.p rfl (AOp.build (pl := [(0, 1), (1, 1)]) (z := .st [.str ⟨#[]⟩, .int .i64 0]) (by kernel_rfl) rfl rfl rfl) ?_ <;> refine AQE.p rfl (AOp.lit (e := 48) (sz := 2) (by kernel_rfl) rfl rfl rfl (P_one rfl) (by decide)) ?_ <;> refine AQE.hl ?_ <;> refine AQE.hl ?_ <;> refine AQE.nil ?_ <;> refine AX.o (n := 1) 16 ?_ <;> refine AXO.append (i := 0) (e := 48) (sz := 2) (bytes := 24) rfl rfl rfl rfl (by kernel_rfl) (by kernel_rfl) (by repeat' (first | exact P_nil | refine P_app ?_ ?_ | refine P_take ?_ | refine P_drop ?_ | exact P_map fun _ => rfl | exact P_one rfl | exact P_rep rfl)) (by repeat' (first | exact P_nil | refine P_app ?_ ?_ | refine P_take ?_ | refine P_drop ?_ | exact P_map fun _ => rfl | exact P_one rfl | exact P_rep rfl)) (ok_all (by repeat' (first | exact P_nil | refine P_app ?_ ?_ | refine P_take ?_ | refine P_drop ?_ | exact P_map fun _ => rfl | exact P_one rfl | exact P_rep rfl))) (by (try simp only [lA, lM, List.length_take, List.length_drop, List.length_cons, List.length_nil, List.length_replicate]); omega) (by (try simp only [lA, lM, List.length_take, List.length_drop, List.length_cons, List.length_nil, List.length_replicate]); omega) rfl fun b' c' => ?_ <;> try dsimp only [sA, sB, sC, sD] <;> refine AX.o (n := 0) 17 ?_ <;> refine AXO.e ?_ <;> try dsimp only [sA, sB, sC, sD] <;> refine AX.done_keep [0, 2, 3, 4, 5, 6, 7, 8, 9, 10, 11, 12, 30, 31, 32, 33, 34, 35, 36, 37, 38, 39, 40, 41, 42, 43, 44, 45, 46, 47, 48, 49, 50, 51, 52, 53, 54, 55, 56, 57, 58, 59, 60, 61, 62] ?_) | refine AW.re 6 1 ?_ | refine AW.jt ?_ | refine AW.jf ?_ | refine AW.jj (fun hb => ?_) (fun hb => ?_) | refine AW.go ?_ | fail)
    refine AW.prune [0, 3, 4, 5] (AW.loop (fun mz af h => ∃ (i : Nat) (o : List GSym) (tb : Option Nat) (tc : Nat), i ≤ T.length ∧ mz = T.length - i ∧ af = [(0, .sl [ruleA T]), (3, .slt (o.map GSym.av) tb tc), (4, .int .i64 ((0 : Nat) : Int)), (5, .int .i64 i)] ∧ h = [.tail tb (o.map GSym.av).length tc 2] ∧ o = ⟨empS, 0⟩ :: T.take i) T.length ⟨0, [⟨empS, 0⟩], _, _, Nat.zero_le _, rfl, rfl, rfl, rfl⟩ ?_)
    rintro mz af h ⟨i, o, tb, tc, hi, rfl, rfl, rfl, he⟩
    refine AW.seq ?_
    by_cases hlt : i < T.length
    · obtain ⟨x, hx⟩ := get_lt hlt
      have hxa := hTa x (lG hx)
      obtain ⟨nm, ar⟩ := x
      obtain ⟨k, hk⟩ := Int.eq_ofNat_of_zero_le hxa.1
      simp only at hk
      subst hk
      have hxx : (T.map condA)[((i : Nat) : Int).toNat]? = some (.st [.int .i64 0, .bool false, .st [.str nm, .sl (List.replicate k (.str empS))]]) := map_get hx
      have hol : o.length = i + 1 := by rw [he]; simp; omega
      repeat' (first | (refine xS 7 3 ?_; (first | refine AL.d (iX hx') ?_ | refine AL.d (iX hxx) ?_) <;> refine AL.es 4 ?_ <;> refine AL.nil ?_) | (refine xS 9 2 ?_; (first | refine AL.d (iX hx') ?_ | refine AL.d (iX hxx) ?_) <;> refine AL.es 3 ?_ <;> (first | refine AL.d (iX hx') ?_ | refine AL.d (iX hxx) ?_) <;> refine AL.es 1 ?_ <;> refine AL.alloc_store (by kernel_rfl) rfl rfl rfl rfl ?_ <;> refine AL.nil ?_) | refine AW.re 10 3 ?_ | (refine xS 11 8 ?_; refine AL.d (AOp.build (pl := [(0, 1), (1, 1)]) (z := .st [.str ⟨#[]⟩, .int .i64 0]) (by kernel_rfl) rfl rfl rfl) ?_ <;> refine AL.d (AOp.lit (e := 48) (sz := 2) (by kernel_rfl) rfl rfl rfl (P_one rfl) (by decide)) ?_ <;> refine AL.append (i := 0) (e := 48) (sz := 2) (bytes := 24) rfl rfl rfl rfl (by kernel_rfl) (by kernel_rfl) (by repeat' (first | exact P_nil | refine P_app ?_ ?_ | refine P_take ?_ | refine P_drop ?_ | exact P_map fun _ => rfl | exact P_one rfl | exact P_rep rfl)) (by repeat' (first | exact P_nil | refine P_app ?_ ?_ | refine P_take ?_ | refine P_drop ?_ | exact P_map fun _ => rfl | exact P_one rfl | exact P_rep rfl)) (ok_all (by repeat' (first | exact P_nil | refine P_app ?_ ?_ | refine P_take ?_ | refine P_drop ?_ | exact P_map fun _ => rfl | exact P_one rfl | exact P_rep rfl))) (by (try simp only [lA, lM, List.length_take, List.length_drop, List.length_cons, List.length_nil, List.length_replicate]); omega) (by (try simp only [lA, lM, List.length_take, List.length_drop, List.length_cons, List.length_nil, List.length_replicate]); omega) rfl fun b' c' => ?_ <;> refine AL.es 1 ?_ <;> refine AL.nil ?_) | (refine xS 8 1 ?_; refine AL.d AOp.ad ?_; refine xN 1 ?_) | refine AW.jt ?_ | refine AW.jf ?_ | refine AW.jj (fun hb => ?_) (fun hb => ?_) | refine AW.go ?_ | fail)
      all_goals try (exfalso; simp only [dT, dF, lM] at *; omega)
      have htk : T.take (i + 1) = T.take i ++ [(⟨nm, (k : Int)⟩ : GSym)] := by rw [List.take_add_one, hx]; rfl
      have hav : AV.st [.str nm, .int .i64 (List.replicate k (AV.str empS)).length] = GSym.av ⟨nm, (k : Int)⟩ := by rw [List.length_replicate]; rfl
      have hmm : (o ++ [(⟨nm, (k : Int)⟩ : GSym)]).map GSym.av = o.map GSym.av ++ [AV.st [.str nm, .int .i64 (List.replicate k (AV.str empS)).length]] := by rw [hav]; simp
      refine AW.again_keep (T.length - (i + 1)) [0, 3, 4, 5] (by omega) ⟨i + 1, o ++ [(⟨nm, (k : Int)⟩ : GSym)], b', c', hlt, rfl, ?_, ?_, ?_⟩
      · rw [hmm]; rfl
      · rw [hmm]; rfl
      · rw [he, htk]; rfl
    · obtain rfl : i = T.length := by omega
      rw [List.take_length] at he
      subst he
      repeat' (first | (refine xS 7 3 ?_; refine AL.d (iX hx') ?_; refine xN 4 ?_) | refine AW.jt ?_ | refine AW.jf ?_ | refine AW.jj (fun hb => ?_) (fun hb => ?_) | refine AW.go ?_ | fail)
      all_goals try (exfalso; simp only [dT, dF, lM] at *; omega)
      repeat' (first | (refine xS 4 1 ?_; refine AL.d AOp.ad ?_; refine xN 1 ?_) | refine AW.jt ?_ | refine AW.jf ?_ | refine AW.jj (fun hb => ?_) (fun hb => ?_) | refine AW.go ?_ | fail)
      exact AW.again_keep (1 - (0 + 1)) [0, 3, 4] (by omega) ⟨0 + 1, _, _, _, by omega, rfl, rfl, rfl, rfl⟩
  · rw [if_neg (by omega)] at he
    subst he
    repeat' (first | refine AW.re 3 4 ?_ | refine AW.re 12 2 ?_ | refine AW.jt ?_ | refine AW.jf ?_ | refine AW.jj (fun hb => ?_) (fun hb => ?_) | refine AW.go ?_ | fail)
    all_goals try (exfalso; simp only [dT, dF, List.length_cons, List.length_nil] at *; omega)
    refine AW.as_sl 2 rfl ?_
    exact AW.ret_drop rfl (List.nil_sublist _) ⟨rfl, rfl⟩
theorem ref_Arity (T : List GSym) (hT : symOkT T) (n : ByteArray) : Tri Tryz.prog 46 [.sl [ruleA T], .str n] [] (D (.int .i64 ((arOf (atomsP T) n).getD (-1))) []) := by
  have hA := ref_atoms T hT
  have hl : (atomsP T).length ≤ 1000000 := by have := hT.1; simp [atomsP]; omega
  generalize atomsP T = L at *
  refine Tri.enter 27 Tryz.func46 rfl rfl rfl rfl fun Fr w0 => ?_
  repeat' (first | refine AW.re 0 1 ?_ | (refine xS 1 1 ?_; refine AL.d (AOp.call rfl rfl hA) ?_; refine xN 1 ?_) | refine AW.re 2 1 ?_ | refine AW.jt ?_ | refine AW.jf ?_ | refine AW.jj (fun hb => ?_) (fun hb => ?_) | refine AW.go ?_ | fail)
  refine AW.prune [1, 5, 6] (AW.loop (fun mz af h => ∃ (i : Nat), i ≤ L.length ∧ mz = L.length - i ∧ af = [(1, .str n), (5, .sl (L.map GSym.av)), (6, .int .i64 i)] ∧ h = [] ∧ arOf L n = arOf (L.drop i) n) L.length ⟨0, Nat.zero_le _, rfl, rfl, rfl, rfl⟩ ?_)
  rintro mz af h ⟨i, hi, rfl, rfl, rfl, he⟩
  refine AW.seq ?_
  by_cases hlt : i < L.length
  · obtain ⟨x, hx⟩ := get_lt hlt
    have hx' : (L.map GSym.av)[((i : Nat) : Int).toNat]? = some x.av := map_get hx
    rw [drop_cons hx, show x :: L.drop (i + 1) = [x] ++ L.drop (i + 1) from rfl, arOf_append, arOf_one] at he
    repeat' (first | refine AW.re 3 4 ?_ | (refine xS 5 2 ?_; refine AL.d (iX hx') ?_; refine xN 4 ?_) | (refine xS 6 2 ?_; refine AL.d (iX hx') ?_; refine xN 3 ?_) | (refine xS 4 1 ?_; refine AL.d AOp.ad ?_; refine xN 1 ?_) | refine AW.jt ?_ | refine AW.jf ?_ | refine AW.jj (fun hb => ?_) (fun hb => ?_) | refine AW.go ?_ | fail)
    all_goals try (exfalso; simp only [dT, dF, lM] at *; omega)
    all_goals rw [toList_beq] at hb
    · rw [if_pos (by simpa using hb)] at he
      exact AW.retv rfl ⟨by rw [he]; rfl, rfl⟩
    · rw [if_neg (by simpa using hb)] at he
      exact AW.again_keep (L.length - (i + 1)) [1, 5, 6] (by omega) ⟨i + 1, hlt, rfl, rfl, rfl, he⟩
  · rw [List.drop_eq_nil_of_le (by omega)] at he
    repeat' (first | refine AW.re 3 4 ?_ | refine AW.re 7 1 ?_ | refine AW.jt ?_ | refine AW.jf ?_ | refine AW.jj (fun hb => ?_) (fun hb => ?_) | refine AW.go ?_ | fail)
    all_goals try (exfalso; simp only [dT, dF, lM] at *; omega)
    exact AW.retv rfl ⟨by rw [he]; rfl, rfl⟩
def ordGo : List GSym → List ByteArray → List ByteArray
  | [], o => o
  | a :: l, o => ordGo l (if a.Name = empS then o else risP o a.Name)
theorem ordGo_len : ∀ (l : List GSym) (o : List ByteArray), (ordGo l o).length ≤ o.length + l.length
  | [], o => by simp [ordGo]
  | a :: l, o => by
    have h1 := ordGo_len l (if a.Name = empS then o else risP o a.Name)
    have h2 := risP_len o a.Name
    rw [ordGo, List.length_cons]
    split at h1 <;> rename_i h
    · rw [if_pos h]; omega
    · rw [if_neg h]; omega
def symsP (T : List GSym) : List GSym := (ordGo (atomsP T) []).map fun n => ⟨n, (arOf (atomsP T) n).getD (-1)⟩
theorem ref_Symbols7 (T : List GSym) (hT : symOkT T) : Tri Tryz.prog 22 [.sl [ruleA T]] [] (D (.sl ((symsP T).map GSym.av)) []) := by
  have hA := ref_atoms T hT
  have hD := ref_Defined T
  have hAr0 := ref_Arity T hT
  have hl : (atomsP T).length ≤ 200000 := by have := hT.1; simp [atomsP]; omega
  have hol := ordGo_len (atomsP T) []
  unfold symsP
  generalize hO : ordGo (atomsP T) [] = O at *
  generalize hF : (fun n => (arOf (atomsP T) n).getD (-1)) = F at *
  have hAr : ∀ n, Tri Tryz.prog 46 [.sl [ruleA T], .str n] [] (D (.int .i64 (F n)) []) := fun n => by rw [← hF]; exact hAr0 n
  have hgoal : (fun n => (⟨n, (arOf (atomsP T) n).getD (-1)⟩ : GSym)) = fun n => ⟨n, F n⟩ := by rw [← hF]
  rw [hgoal]
  clear hgoal hF hAr0
  generalize atomsP T = L at *
  rw [List.length_nil, Nat.zero_add] at hol
  refine Tri.enter 55 Tryz.func22 rfl rfl rfl rfl fun Fr w0 => ?_
  repeat' (first | refine AW.re 0 1 ?_ | (refine xS 1 1 ?_; (first | refine AL.d (AOp.call rfl rfl hA) ?_ | refine AL.d (AOp.call rfl rfl hD) ?_) <;> refine AL.es 1 ?_ <;> refine AL.nil ?_) | refine AW.re 2 1 ?_ | (refine xS 3 1 ?_; (first | refine AL.d (AOp.call rfl rfl hA) ?_ | refine AL.d (AOp.call rfl rfl hD) ?_) <;> refine AL.es 1 ?_ <;> refine AL.nil ?_) | refine AW.re 4 1 ?_ | refine AW.jt ?_ | refine AW.jf ?_ | refine AW.jj (fun hb => ?_) (fun hb => ?_) | refine AW.go ?_ | fail)
  refine AW.prune [0, 3, 4, 5, 6] (AW.loop (fun mz af h => ∃ (i : Nat) (o : List ByteArray), i ≤ L.length ∧ mz = L.length - i ∧ af = [(0, .sl [ruleA T]), (3, strs [empS]), (4, strs o), (5, .sl (L.map GSym.av)), (6, .int .i64 i)] ∧ h = [] ∧ (O = ordGo (L.drop i) o ∧ o.length ≤ i)) L.length ⟨0, [], Nat.zero_le _, rfl, rfl, rfl, ⟨hO.symm, Nat.le_refl _⟩⟩ ?_)
  rintro mz af h ⟨i, o, hi, rfl, rfl, rfl, he⟩
  refine AW.seq ?_
  by_cases hlt : i < L.length
  all_goals obtain ⟨he, hoi⟩ := he
  · obtain ⟨x, hx⟩ := get_lt hlt
    have hx' : (L.map GSym.av)[((i : Nat) : Int).toNat]? = some x.av := map_get hx
    have hAm := ref_Among [empS] x.Name (by simp)
    have hR := ref_rising o x.Name (by omega)
    have hrl := risP_len o x.Name
    rw [drop_cons hx, ordGo] at he
    rw [show ([empS].any fun y => decide (y = x.Name)) = decide (x.Name = empS) by simp [eq_comm]] at hAm
    repeat' (first | refine AW.re 5 4 ?_ | (refine xS 7 3 ?_; refine AL.d (iX hx') ?_; refine AL.es 2 ?_; (first | refine AL.d (AOp.call rfl rfl hAm) ?_ | refine AL.d (AOp.call rfl rfl hR) ?_) <;> refine AL.es 1 ?_ <;> refine AL.nil ?_) | (refine xS 8 3 ?_; refine AL.d (iX hx') ?_; refine AL.es 2 ?_; (first | refine AL.d (AOp.call rfl rfl hAm) ?_ | refine AL.d (AOp.call rfl rfl hR) ?_) <;> refine AL.es 1 ?_ <;> refine AL.nil ?_) | (refine xS 6 1 ?_; refine AL.d AOp.ad ?_; refine xN 1 ?_) | refine AW.jt ?_ | refine AW.jf ?_ | refine AW.jj (fun hb => ?_) (fun hb => ?_) | refine AW.go ?_ | fail)
    all_goals try (exfalso; simp only [dT, dF, lM] at *; omega)
    · rw [if_neg (by simpa using hb)] at he
      exact AW.again_keep (L.length - (i + 1)) [0, 3, 4, 5, 6] (by omega) ⟨i + 1, _, hlt, rfl, rfl, rfl, he, by omega⟩
    · rw [if_pos (by simpa using hb)] at he
      exact AW.again_keep (L.length - (i + 1)) [0, 3, 4, 5, 6] (by omega) ⟨i + 1, _, hlt, rfl, rfl, rfl, he, by omega⟩
  · rw [List.drop_eq_nil_of_le (by omega), ordGo] at he
    subst he
    repeat' (first | refine AW.re 5 4 ?_ | refine AW.jt ?_ | refine AW.jf ?_ | refine AW.jj (fun hb => ?_) (fun hb => ?_) | refine AW.go ?_ | fail)
    all_goals try (exfalso; simp only [dT, dF, lM] at *; omega)
    refine AW.own_nil 2 ?_
    repeat' (first | (refine AW.r 9 ?_; (first | refine AL.d AOp.assign_nil ?_ | refine AL.e ?_) <;> refine AL.nil ?_) | (refine AW.r 10 ?_; (first | refine AL.d AOp.assign_nil ?_ | refine AL.e ?_) <;> refine AL.nil ?_) | refine AW.jt ?_ | refine AW.jf ?_ | refine AW.jj (fun hb => ?_) (fun hb => ?_) | refine AW.go ?_ | fail)
    refine AW.prune [0, 4, 7, 8] (AW.loop (fun mz af h => ∃ (i : Nat) (out : List GSym) (tb : Option Nat) (tc : Nat), i ≤ O.length ∧ mz = O.length - i ∧ af = [(0, .sl [ruleA T]), (4, strs O), (7, .slt (out.map GSym.av) tb tc), (8, .int .i64 i)] ∧ h = [.tail tb (out.map GSym.av).length tc 2] ∧ out = ((O.take i).map fun n => (⟨n, F n⟩ : GSym))) O.length ⟨0, [], none, 0, Nat.zero_le _, rfl, rfl, rfl, rfl⟩ ?_)
    rintro mz af h ⟨i, out, tb, tc, hi, rfl, rfl, rfl, he⟩
    refine AW.seq ?_
    by_cases hlt : i < O.length
    · obtain ⟨x, hx⟩ := get_lt hlt
      have hx' : (O.map AV.str)[((i : Nat) : Int).toNat]? = some (.str x) := map_get hx
      have hAx := hAr x
      have htk : O.take (i + 1) = O.take i ++ [x] := by rw [List.take_add_one, hx]; rfl
      have hlo : out.length = i := by rw [he]; simp; omega
      repeat' (first | refine AW.re 11 4 ?_ | refine AW.jt ?_ | refine AW.jf ?_ | refine AW.jj (fun hb => ?_) (fun hb => ?_) | refine AW.go ?_ | fail)
      all_goals try (exfalso; simp only [dT, dF, lM] at *; omega)
      repeat' (first | (refine AW.ex 13 [true] [13, 14] ?_; refine AQE.e ?_; refine AQE.e ?_; refine AQE.e ?_; refine AQE.p rfl (iX hx') ?_; refine AQE.p rfl AOp.la ?_; refine AQE.e ?_; refine AQE.e ?_; refine AQE.e ?_; refine AQE.p rfl (iX hx') ?_; refine AQE.p rfl AOp.la ?_; refine AQE.p rfl (AOp.call rfl rfl (hAx.pure _)) ?_; refine AQE.p rfl (AOp.build (pl := [(0, 1), (1, 1)]) (z := .st [.str ⟨#[]⟩, .int .i64 0]) (by kernel_rfl) rfl rfl rfl) ?_ <;> refine AQE.p rfl (AOp.lit (e := 48) (sz := 2) (by kernel_rfl) rfl rfl rfl (P_one rfl) (by decide)) ?_ <;> refine AQE.hl ?_ <;> refine AQE.hl ?_ <;> refine AQE.nil ?_ <;> refine AX.o (n := 1) 13 ?_ <;> refine AXO.append (i := 0) (e := 48) (sz := 2) (bytes := 24) rfl rfl rfl rfl (by kernel_rfl) (by kernel_rfl) (by repeat' (first | exact P_nil | refine P_app ?_ ?_ | refine P_take ?_ | refine P_drop ?_ | exact P_map fun _ => rfl | exact P_one rfl | exact P_rep rfl)) (by repeat' (first | exact P_nil | refine P_app ?_ ?_ | refine P_take ?_ | refine P_drop ?_ | exact P_map fun _ => rfl | exact P_one rfl | exact P_rep rfl)) (ok_all (by repeat' (first | exact P_nil | refine P_app ?_ ?_ | refine P_take ?_ | refine P_drop ?_ | exact P_map fun _ => rfl | exact P_one rfl | exact P_rep rfl))) (by (try simp only [lA, lM, List.length_take, List.length_drop, List.length_cons, List.length_nil, List.length_replicate]); omega) (by (try simp only [lA, lM, List.length_take, List.length_drop, List.length_cons, List.length_nil, List.length_replicate]); omega) rfl fun b' c' => ?_ <;> try dsimp only [sA, sB, sC, sD] <;> refine AX.o (n := 0) 14 ?_ <;> refine AXO.e ?_ <;> try dsimp only [sA, sB, sC, sD] <;> refine AX.done_keep [0, 2, 3, 4, 5, 6, 7, 8, 9, 10, 11, 12, 13, 14, 15, 16, 17, 18, 19, 20, 21, 22, 23, 24, 25, 26, 27, 28, 29, 30, 31, 32, 33, 34, 35, 36, 37, 38, 39, 54] ?_) | (refine xS 12 1 ?_; refine AL.d AOp.ad ?_; refine xN 1 ?_) | refine AW.jt ?_ | refine AW.jf ?_ | refine AW.jj (fun hb => ?_) (fun hb => ?_) | refine AW.go ?_ | fail)
      have hmm : (out ++ [(⟨x, F x⟩ : GSym)]).map GSym.av = out.map GSym.av ++ [AV.st [.str x, .int .i64 (F x)]] := by simp [GSym.av]
      refine AW.again_keep (O.length - (i + 1)) [0, 4, 7, 8] (by omega) ⟨i + 1, out ++ [(⟨x, F x⟩ : GSym)], b', c', hlt, rfl, ?_, ?_, ?_⟩
      · rw [hmm]; rfl
      · rw [hmm]; rfl
      · rw [he, htk]; simp
    · rw [List.take_of_length_le (by omega)] at he
      subst he
      repeat' (first | refine AW.re 11 4 ?_ | refine AW.re 14 2 ?_ | refine AW.jt ?_ | refine AW.jf ?_ | refine AW.jj (fun hb => ?_) (fun hb => ?_) | refine AW.go ?_ | fail)
      all_goals try (exfalso; simp only [dT, dF, lM] at *; omega)
      refine AW.as_sl 2 rfl ?_
      exact AW.ret_drop rfl (List.nil_sublist _) ⟨rfl, rfl⟩
def polyAt (p : List Int) (i : Nat) : Int := (p[i]?).getD 0
def PolyOk (p : List Int) : Prop := ∀ x ∈ p, 0 ≤ x ∧ x ≤ 1099511627777
theorem polyAt_ok {p : List Int} (h : PolyOk p) (i : Nat) : 0 ≤ polyAt p i ∧ polyAt p i ≤ 1099511627777 := by
  unfold polyAt
  cases e : p[i]? with
  | none => simp
  | some x => exact h x (lG e)
theorem code_at (p : List Int) (i : Nat) (hl : p.length ≤ 4611686018427387904) : Tri Tryz.prog 106 [ints p, .int .i64 i] [] (D (.int .i64 (polyAt p i)) []) := by
  by_cases h : i < p.length
  · obtain ⟨x, hx⟩ := get_lt h
    have hx' : (p.map iav)[((i : Nat) : Int).toNat]? = some (iav x) := map_get hx
    rw [polyAt, hx]
    refine Tri.enter 13 Tryz.func106 rfl rfl rfl rfl fun Fr w0 => ?_
    repeat' (first | refine AW.re 0 1 ?_ | refine AW.re 1 4 ?_ | (refine xS 2 2 ?_; refine AL.d (iX hx') ?_; refine xN 2 ?_) | refine AW.re 3 1 ?_ | refine AW.jt ?_ | refine AW.jf ?_ | refine AW.jj (fun hb => ?_) (fun hb => ?_) | refine AW.go ?_ | fail)
    all_goals first
      | (exfalso; simp only [dT, dF, lM] at *; omega)
      | exact AW.retv rfl ⟨rfl, rfl⟩
  · rw [polyAt, List.getElem?_eq_none (by omega)]
    refine Tri.enter 13 Tryz.func106 rfl rfl rfl rfl fun Fr w0 => ?_
    repeat' (first | refine AW.re 0 1 ?_ | refine AW.re 1 4 ?_ | refine AW.re 3 1 ?_ | refine AW.jt ?_ | refine AW.jf ?_ | refine AW.jj (fun hb => ?_) (fun hb => ?_) | refine AW.go ?_ | fail)
    all_goals first
      | (exfalso; simp only [dT, dF, lM] at *; omega)
      | exact AW.retv rfl ⟨rfl, rfl⟩
theorem plus1 (a b : Int) (ha : 0 ≤ a ∧ a ≤ 1099511627777) (hb : 0 ≤ b ∧ b ≤ 1099511627777) : Tri Tryz.prog 104 [.int .i64 a, .int .i64 b] [] (D (.int .i64 (a + b)) []) := by
  refine Tri.enter 8 Tryz.func104 rfl rfl rfl rfl fun Fr w0 => ?_
  repeat' (first | refine AW.re 0 1 ?_ | (refine xS 1 2 ?_; refine AL.d AOp.ad ?_; refine xN 1 ?_) | refine AW.jt ?_ | refine AW.jf ?_ | refine AW.jj (fun hb => ?_) (fun hb => ?_) | refine AW.go ?_ | fail)
  exact AW.retv rfl ⟨rfl, rfl⟩
theorem time1 (a b : Int) : Tri Tryz.prog 84 [.int .i64 a, .int .i64 b] [] (D (.int .i64 (max a b)) []) := by
  refine Tri.enter 8 Tryz.func84 rfl rfl rfl rfl fun Fr w0 => ?_
  repeat' (first | refine AW.re 0 1 ?_ | (refine xS 1 2 ?_; refine AL.d (AOp.max2 rfl rfl) ?_; refine xN 1 ?_) | refine AW.jt ?_ | refine AW.jf ?_ | refine AW.jj (fun hb => ?_) (fun hb => ?_) | refine AW.go ?_ | fail)
  exact AW.retv rfl ⟨rfl, rfl⟩
def joinP (g : Int → Int → Int) (p q : List Int) : List Int := (List.range (max p.length q.length)).map fun i => min (g (polyAt p i) (polyAt q i)) 1099511627777
theorem joinP_len (g : Int → Int → Int) (p q : List Int) : (joinP g p q).length = max p.length q.length := by simp [joinP]
theorem joinP_get {g : Int → Int → Int} {p q : List Int} {i : Nat} (h : i < max p.length q.length) : (joinP g p q)[i]? = some (min (g (polyAt p i) (polyAt q i)) 1099511627777) := by
  simp only [joinP, List.getElem?_map, List.getElem?_range h, Option.map_some]
theorem joinP_ok {g : Int → Int → Int} {p q : List Int} (hp : PolyOk p) (hq : PolyOk q) (hg : ∀ a b, 0 ≤ a → 0 ≤ b → 0 ≤ g a b) : PolyOk (joinP g p q) := by
  intro x hx
  simp only [joinP, List.mem_map] at hx
  obtain ⟨i, _, rfl⟩ := hx
  have := hg _ _ (polyAt_ok hp i).1 (polyAt_ok hq i).1
  omega
theorem fill_set {α : Type} {L : List α} {n i : Nat} {v z : α} (hL : L.length = n) (hv : L[i]? = some v) : (L.take i ++ List.replicate (n - i) z).set i v = L.take (i + 1) ++ List.replicate (n - (i + 1)) z := by
  have hi : i < n := by rw [← hL]; exact (List.getElem?_eq_some_iff.1 hv).1
  have hl : (L.take i).length = i := by simp; omega
  rw [List.set_append, if_neg (by omega), hl, Nat.sub_self, show n - i = (n - (i + 1)) + 1 by omega, List.replicate_succ, sB, List.take_add_one, hv]
  simp
theorem code_joined (p q : List Int) (hp : PolyOk p) (hq : PolyOk q) (hlp : p.length ≤ 2000000) (hlq : q.length ≤ 2000000) (fid : FuncId) (g : Int → Int → Int) (hg : ∀ a b, 0 ≤ a ∧ a ≤ 1099511627777 → 0 ≤ b ∧ b ≤ 1099511627777 → Tri Tryz.prog fid [.int .i64 a, .int .i64 b] [] (D (.int .i64 (g a b)) [])) :
    Tri Tryz.prog 83 [ints p, ints q, .fn fid []] [] (D (ints (joinP g p q)) []) := by
  obtain ⟨n, hn⟩ : ∃ n, n = max p.length q.length := ⟨_, rfl⟩
  have hMx : (some (AV.int .i64 (max ((p.map iav).length : Int) ((q.map iav).length : Int)))) = some (AV.int .i64 (n : Nat)) := by rw [lM, lM, hn]; congr 2; omega
  have hjl := joinP_len g p q
  rw [← hn] at hjl
  refine Tri.enter 34 Tryz.func83 rfl rfl rfl rfl fun Fr w0 => ?_
  repeat' (first | refine AW.re 0 1 ?_ | (refine xS 1 4 ?_; refine AL.d (AOp.max2 rfl rfl) ?_; refine AL.makeSlice (n := n) (e := 3) (c := .int .i64 0) (z := .int .i64 0) (bytes := 8) hMx hMx (by kernel_rfl) rfl (by omega) (by omega) rfl fun b => ?_; refine xN 1 ?_) | refine AW.jt ?_ | refine AW.jf ?_ | refine AW.jj (fun hb => ?_) (fun hb => ?_) | refine AW.go ?_ | fail)
  repeat' (first | refine AW.re 2 3 ?_ | refine AW.jt ?_ | refine AW.jf ?_ | refine AW.jj (fun hb => ?_) (fun hb => ?_) | refine AW.go ?_ | fail)
  refine AW.prune [0, 1, 2, 7, 16, 17] (AW.loop (fun m af h => ∃ i : Nat, i ≤ n ∧ m = n - i ∧ af = [(0, ints p), (1, ints q), (2, .fn fid []), (7, .osl b n n), (16, .int .i64 n), (17, .int .i64 i)] ∧ h = [.row b (((joinP g p q).take i ++ List.replicate (n - i) 0).map iav)]) n ⟨0, Nat.zero_le _, rfl, rfl, by rw [List.take_zero, List.nil_append, Nat.sub_zero, List.map_replicate]; rfl⟩ ?_)
  rintro m af h ⟨i, hi, rfl, rfl, rfl⟩
  refine AW.seq ?_
  by_cases hlt : i < n
  · have h1 := code_at p i (by omega)
    have h2 := code_at q i (by omega)
    have h3 := hg _ _ (polyAt_ok hp i) (polyAt_ok hq i)
    repeat' (first | refine AW.re 3 1 ?_ | refine AW.re 4 2 ?_ | (refine xS 5 5 ?_; (first | refine AL.d (AOp.call rfl rfl (h1.pure _)) ?_ | refine AL.d (AOp.call rfl rfl (h2.pure _)) ?_ | refine AL.d (AOp.call rfl rfl (h3.pure _)) ?_) <;> refine AL.es 2 ?_ <;> (first | refine AL.d (AOp.call rfl rfl (h1.pure _)) ?_ | refine AL.d (AOp.call rfl rfl (h2.pure _)) ?_ | refine AL.d (AOp.call rfl rfl (h3.pure _)) ?_) <;> (first | refine AL.d (AOp.call rfl rfl (h1.pure _)) ?_ | refine AL.d (AOp.call rfl rfl (h2.pure _)) ?_ | refine AL.d (AOp.call rfl rfl (h3.pure _)) ?_) <;> refine AL.d (AOp.min2 rfl rfl) ?_ <;> refine AL.d (AOp.index_osl rfl rfl (by omega) (by omega) (by kernel_rfl)) ?_ <;> refine AL.store_cell 0 rfl rfl rfl (by simp; omega) rfl rfl (by kernel_rfl) ?_ <;> refine AL.nil ?_) | refine AW.jt ?_ | refine AW.jf ?_ | refine AW.jj (fun hb => ?_) (fun hb => ?_) | refine AW.go ?_ | fail)
    all_goals try (exfalso; simp only [dT, dF, lM] at *; omega)
    have hset := fill_set (z := (0 : Int)) hjl (joinP_get (g := g) (p := p) (q := q) (i := i) (by omega))
    repeat' (first | (refine AW.r 6 ?_; refine AL.d AOp.ad ?_; refine xN 1 ?_) | refine AW.jt ?_ | refine AW.jf ?_ | refine AW.jj (fun hb => ?_) (fun hb => ?_) | refine AW.go ?_ | fail)
    refine AW.again_keep (n - (i + 1)) [0, 1, 2, 7, 16, 17] (by omega) ⟨i + 1, hlt, rfl, rfl, ?_⟩
    rw [← hset, List.map_set]
    rfl
  · obtain rfl : i = n := by omega
    repeat' (first | refine AW.re 3 1 ?_ | refine AW.jt ?_ | refine AW.jf ?_ | refine AW.jj (fun hb => ?_) (fun hb => ?_) | refine AW.go ?_ | fail)
    all_goals try (exfalso; simp only [dT, dF] at *; omega)
    refine AW.freeze_row 0 7 rfl rfl (by simp; omega) (all_map fun _ => rfl) ?_
    repeat' (first | refine AW.re 7 2 ?_ | refine AW.jt ?_ | refine AW.jf ?_ | refine AW.jj (fun hb => ?_) (fun hb => ?_) | refine AW.go ?_ | fail)
    first | refine AW.donev rfl ⟨?_, rfl⟩ | refine AW.retv rfl ⟨?_, rfl⟩
    show AEnd.ret (.sl (((joinP g p q).take i ++ List.replicate (i - i) 0).map iav)) = _
    rw [Nat.sub_self, List.replicate_zero, List.append_nil, List.take_of_length_le (by omega)]
    rfl
def plusP (p q : List Int) : List Int := joinP (fun a b => a + b) p q
theorem code_plus (p q : List Int) (hp : PolyOk p) (hq : PolyOk q) (hlp : p.length ≤ 2000000) (hlq : q.length ≤ 2000000) : Tri Tryz.prog 81 [ints p, ints q] [] (D (ints (plusP p q)) []) := by
  have h := code_joined p q hp hq hlp hlq 104 (fun a b => a + b) plus1
  refine Tri.enter 8 Tryz.func81 rfl rfl rfl rfl fun Fr w0 => ?_
  repeat' (first | refine AW.re 0 1 ?_ | (refine xS 1 2 ?_; refine AL.d (AOp.call rfl rfl h) ?_; refine xN 1 ?_) | refine AW.jt ?_ | refine AW.jf ?_ | refine AW.jj (fun hb => ?_) (fun hb => ?_) | refine AW.go ?_ | fail)
  exact AW.retv rfl ⟨rfl, rfl⟩
theorem slices_Grow (n : Nat) (h0 : 0 < n) (hn : n ≤ 2000000) : Tri Tryz.prog 121 [nilS, .int .i64 n] [] (fun x h => ∃ b k, n ≤ k ∧ x = .ret (.osl b 0 k) ∧ h = [.row b (List.replicate k (.int .i64 0))]) := by
  refine Tri.enter 27 Tryz.func121 rfl rfl rfl rfl fun Fr w0 => ?_
  repeat' (first | refine AW.re 0 1 ?_ | refine AW.re 1 2 ?_ | refine AW.jt ?_ | refine AW.jf ?_ | refine AW.jj (fun hb => ?_) (fun hb => ?_) | refine AW.go ?_ | fail)
  all_goals try (exfalso; simp only [dT, dF] at *; omega)
  repeat' (first | (refine xS 3 2 ?_; refine AL.d (AOp.cap_nil (by kernel_rfl) rfl) ?_; refine AL.es 1 ?_; (first | refine AL.d (AOp.len_nil (by kernel_rfl) rfl) ?_ | refine AL.d AOp.ln ?_) <;> refine AL.d AOp.sb ?_ <;> refine AL.d AOp.sb ?_ <;> refine AL.es 1 ?_ <;> refine AL.nil ?_) | refine AW.re 4 2 ?_ | refine AW.jt ?_ | refine AW.jf ?_ | refine AW.jj (fun hb => ?_) (fun hb => ?_) | refine AW.go ?_ | fail)
  · have hnx : (some (AV.int .i64 ((n : Int) - (0 - 0)))) = some (AV.int .i64 (n : Nat)) := by rw [Int.sub_zero, Int.sub_zero]
    refine AW.region_at 5 ?_
    refine AL.ev rfl rfl rfl rfl ?_
    refine AL.ev rfl rfl rfl rfl ?_
    refine AL.det (AOp.cap_nil (by kernel_rfl) rfl) rfl rfl rfl ?_
    refine AL.det (AOp.cut_nil (sz := 1) (by kernel_rfl) rfl bndIs.none (bndIs.some (i := 0) rfl rfl)) rfl rfl rfl ?_
    refine AL.ev rfl rfl rfl rfl ?_
    refine AL.append_zeros (n := n) (e := 3) (c := .int .i64 0) (z := .int .i64 0) (bytes := 8) rfl hnx h0 (by kernel_rfl) (by kernel_rfl) rfl (by omega) (by omega) rfl fun b k hk => ?_
    refine AL.ev rfl rfl rfl rfl ?_
    refine AL.det (AOp.len_nil (by kernel_rfl) rfl) rfl rfl rfl ?_
    refine AL.det (AOp.cut_osl (sz := 1) (h := 0) (by kernel_rfl) rfl (bndIs.some (i := 0) rfl rfl) (Nat.zero_le _)) rfl rfl rfl ?_
    refine AL.ev rfl rfl rfl rfl ?_
    refine AL.nil ?_
    repeat' (first | refine AW.re 6 2 ?_ | refine AW.jt ?_ | refine AW.jf ?_ | refine AW.jj (fun hb => ?_) (fun hb => ?_) | refine AW.go ?_ | fail)
    first
      | exact AW.retv rfl ⟨b, k, hk, rfl, rfl⟩
      | exact AW.donev rfl ⟨b, k, hk, rfl, rfl⟩
  · exfalso; simp only [dF] at hb; omega
theorem flat_take {α : Type} {ls : List (List α)} {i : Nat} {x : List α} (h : ls[i]? = some x) : (ls.take (i + 1)).flatten = (ls.take i).flatten ++ x := by
  rw [List.take_add_one, h]; simp
theorem flat_le {α : Type} (ls : List (List α)) (i : Nat) : (ls.take i).flatten.length ≤ ls.flatten.length := by
  have h : ls.flatten = (ls.take i).flatten ++ (ls.drop i).flatten := by rw [← List.flatten_append, List.take_append_drop]
  rw [h, lA]; omega
theorem slices_Concat (ls : List (List Int)) (hl : ls.length ≤ 4611686018427387904) (h0 : 0 < ls.flatten.length) (hn : ls.flatten.length ≤ 2000000) : Tri Tryz.prog 105 [.sl (ls.map ints)] [] (D (ints ls.flatten) []) := by
  have hG := slices_Grow ls.flatten.length h0 hn
  refine Tri.enter 36 Tryz.func105 rfl rfl rfl rfl fun Fr w0 => ?_
  repeat' (first | refine AW.re 0 1 ?_ | refine AW.re 1 1 ?_ | refine AW.re 2 3 ?_ | refine AW.jt ?_ | refine AW.jf ?_ | refine AW.jj (fun hb => ?_) (fun hb => ?_) | refine AW.go ?_ | fail)
  refine AW.prune [0, 3, 9, 10, 11] (AW.loop (fun m af h => ∃ i : Nat, i ≤ ls.length ∧ m = ls.length - i ∧ af = [(0, .sl (ls.map ints)), (3, .int .i64 ((ls.take i).flatten.length : Nat)), (9, .sl (ls.map ints)), (10, .int .i64 (ls.map ints).length), (11, .int .i64 i)] ∧ h = []) ls.length ⟨0, Nat.zero_le _, rfl, rfl, rfl⟩ ?_)
  rintro m af h ⟨i, hi, rfl, rfl, rfl⟩
  refine AW.seq ?_
  have hfl := flat_le ls i
  by_cases hlt : i < ls.length
  · obtain ⟨x, hx⟩ := get_lt hlt
    have hx' : (ls.map ints)[((i : Nat) : Int).toNat]? = some (ints x) := map_get hx
    have hf := flat_take hx
    have hfl2 := flat_le ls (i + 1)
    have hlx : ((x.map iav).length : Int) = x.length := by simp
    rw [hf, lA] at hfl2
    repeat' (first | refine AW.re 3 1 ?_ | (refine AW.r 4 ?_; refine AL.d (iX hx') ?_; refine xN 2 ?_) | (refine xS 5 3 ?_; refine AL.d AOp.ad ?_; refine xN 1 ?_) | refine AW.re 6 2 ?_ | (refine AW.r 8 ?_; refine AL.d AOp.ad ?_; refine xN 1 ?_) | refine AW.jt ?_ | refine AW.jf ?_ | refine AW.jj (fun hb => ?_) (fun hb => ?_) | refine AW.go ?_ | fail)
    all_goals first
      | (exfalso; simp only [dT, dF, lM] at *; omega)
      | (refine AW.again_keep (ls.length - (i + 1)) [0, 3, 9, 10, 11] (by omega) ⟨i + 1, hlt, rfl, ?_, rfl⟩; rw [hf, lA]; show [_, (3, AV.int .i64 (((ls.take i).flatten.length : Int) + ((x.map iav).length : Int))), _, _, _] = _; rw [hlx]; rfl)
  · have hi2 : i = ls.length := by omega
    subst hi2
    rw [List.take_length]
    repeat' (first | refine AW.re 3 1 ?_ | refine AW.jt ?_ | refine AW.jf ?_ | refine AW.jj (fun hb => ?_) (fun hb => ?_) | refine AW.go ?_ | fail)
    all_goals try (exfalso; simp only [dT, dF, lM] at *; omega)
    refine AW.region_at 9 ?_
    refine AL.ev rfl rfl rfl rfl ?_
    refine AL.step rfl rfl (AOp.callV (args := [nilS, .int .i64 (ls.flatten.length : Nat)]) rfl (fun S w a hfr => ?_) hG) ?_ ?_
    · have h2 := aeval_rel hfr (x := .tmp 23) rfl
      simp only [RelVs]
      exact ⟨_, _, rfl, by simp [nilS, RelC, Act.eval], by simp [nilS, Shape, Act.eval], _, _, rfl, h2.1, h2.2, rfl⟩
    · rintro _ _ ⟨b, k, hk, e, rfl⟩
      injection e with e
      subst e
      refine AL.ev rfl rfl rfl rfl ?_
      refine AL.nil ?_
      repeat' (first | refine AW.re 10 3 ?_ | refine AW.jt ?_ | refine AW.jf ?_ | refine AW.jj (fun hb => ?_) (fun hb => ?_) | refine AW.go ?_ | fail)
      refine AW.prune [6, 25, 26, 27] (AW.loop (fun m af h => ∃ i : Nat, i ≤ ls.length ∧ m = ls.length - i ∧ af = [(6, .osl b (ls.take i).flatten.length k), (25, .sl (ls.map ints)), (26, .int .i64 (ls.map ints).length), (27, .int .i64 i)] ∧ h = [.row b (((ls.take i).flatten.map iav) ++ List.replicate (k - (ls.take i).flatten.length) (.int .i64 0))]) ls.length ⟨0, Nat.zero_le _, rfl, rfl, rfl⟩ ?_)
      rintro m af h ⟨i, hi, rfl, rfl, rfl⟩
      refine AW.seq ?_
      have hfl := flat_le ls i
      by_cases hlt : i < ls.length
      · obtain ⟨x, hx⟩ := get_lt hlt
        have hx' : (ls.map ints)[((i : Nat) : Int).toNat]? = some (ints x) := map_get hx
        have hf := flat_take hx
        have hfl2 := flat_le ls (i + 1)
        rw [hf, lA] at hfl2
        repeat' (first | refine AW.re 11 1 ?_ | (refine AW.r 12 ?_; refine AL.d (iX hx') ?_; refine xN 2 ?_) | (refine xS 13 2 ?_; refine AL.d (AOp.append_osl (i := 0) (e := 3) (c0 := .int .i64 0) (bytes := 8) rfl rfl (by rw [lA, lM, List.length_replicate]; omega) rfl rfl (by kernel_rfl) (by kernel_rfl) (all_map fun _ => rfl) (ok_map fun _ => rfl) (by rw [lM]; omega)) ?_ <;> refine AL.es 1 ?_ <;> refine AL.nil ?_) | (refine AW.r 14 ?_; refine AL.d AOp.ad ?_; refine xN 1 ?_) | refine AW.jt ?_ | refine AW.jf ?_ | refine AW.jj (fun hb => ?_) (fun hb => ?_) | refine AW.go ?_ | fail)
        all_goals try (exfalso; simp only [dT, dF, lM] at *; omega)
        refine AW.again_keep (ls.length - (i + 1)) [6, 25, 26, 27] (by omega) ⟨i + 1, hlt, rfl, ?_, ?_⟩
        · rw [hf, lA]
          show [(6, AV.osl b ((ls.take i).flatten.length + (x.map iav).length) k), _, _, _] = _
          rw [lM]; rfl
        · show [Own.row b (((((ls.take i).flatten.map iav) ++ List.replicate (k - (ls.take i).flatten.length) (AV.int .i64 0)).take (ls.take i).flatten.length) ++ (x.map iav) ++ ((((ls.take i).flatten.map iav) ++ List.replicate (k - (ls.take i).flatten.length) (AV.int .i64 0)).drop ((ls.take i).flatten.length + (x.map iav).length)))] = _
          rw [hf]
          congr 2
          have e1 : ((ls.take i).flatten.map iav).length = (ls.take i).flatten.length := lM _
          rw [List.take_append_of_le_length (by omega), List.take_of_length_le (by omega), List.map_append, List.append_assoc, List.append_assoc]
          congr 2
          rw [List.drop_append, List.drop_eq_nil_of_le (by rw [lM]; omega), List.nil_append, List.drop_replicate]
          congr 1
          simp only [lA, lM]
          omega
      · have hi3 : i = ls.length := by omega
        subst hi3
        rw [List.take_length]
        repeat' (first | refine AW.re 11 1 ?_ | refine AW.jt ?_ | refine AW.jf ?_ | refine AW.jj (fun hb => ?_) (fun hb => ?_) | refine AW.go ?_ | fail)
        all_goals try (exfalso; simp only [dT, dF, lM] at *; omega)
        refine AW.freeze_pre 0 6 rfl rfl (by rw [lA, lM, List.length_replicate]; omega) (fun x hx => ?_) ?_
        · rcases List.mem_append.1 hx with h | h
          · exact all_map (n := 1) (fun _ => rfl) x h
          · rw [(List.mem_replicate.1 h).2]; rfl
        repeat' (first | refine AW.re 15 2 ?_ | refine AW.jt ?_ | refine AW.jf ?_ | refine AW.jj (fun hb => ?_) (fun hb => ?_) | refine AW.go ?_ | fail)
        first | refine AW.donev rfl ⟨?_, rfl⟩ | refine AW.retv rfl ⟨?_, rfl⟩
        show AEnd.ret (.sl ((ls.flatten.map iav ++ List.replicate (k - ls.flatten.length) (AV.int .i64 0)).take ls.flatten.length)) = _
        rw [List.take_append_of_le_length (by rw [lM]; omega), List.take_of_length_le (by rw [lM]; omega)]
        rfl
    · rintro _ _ ⟨b, k, hk, e, _⟩; cases e
def raisedP (p : List Int) (k : Nat) : List Int := if p = [] then [] else List.replicate k 0 ++ p
theorem code_raised (p : List Int) (k : Nat) (hk : k ≤ 12) (hl : p.length ≤ 1000000) : Tri Tryz.prog 82 [ints p, .int .i64 k] [] (D (ints (raisedP p k)) []) := by
  by_cases h : p = []
  · subst h
    refine Tri.enter 13 Tryz.func82 rfl rfl rfl rfl fun Fr w0 => ?_
    repeat' (first | refine AW.re 0 1 ?_ | refine AW.re 1 3 ?_ | refine AW.re 2 1 ?_ | refine AW.jt ?_ | refine AW.jf ?_ | refine AW.jj (fun hb => ?_) (fun hb => ?_) | refine AW.go ?_ | fail)
    all_goals first
      | exact AW.retv rfl ⟨rfl, rfl⟩
      | (exfalso; simp at *; done)
  · have hpl : 0 < p.length := List.length_pos_iff.2 h
    have hC := slices_Concat [List.replicate k 0, p] (by simp) (by simp; omega) (by simp; omega)
    have hf : ([List.replicate k (0 : Int), p] : List (List Int)).flatten = List.replicate k 0 ++ p := by simp
    rw [hf] at hC
    rw [raisedP, if_neg h]
    have hlen : ((p.map iav).length : Int) = p.length := by simp
    refine Tri.enter 13 Tryz.func82 rfl rfl rfl rfl fun Fr w0 => ?_
    repeat' (first | refine AW.re 0 1 ?_ | refine AW.re 1 3 ?_ | refine AW.jt ?_ | refine AW.jf ?_ | refine AW.jj (fun hb => ?_) (fun hb => ?_) | refine AW.go ?_ | fail)
    · exfalso; simp only [beq_iff_eq] at hb; omega
    refine AW.region_at 3 ?_
    refine AL.ev rfl rfl rfl rfl ?_
    refine AL.makeSlice (n := k) (e := 3) (c := .int .i64 0) (z := .int .i64 0) (bytes := 8) rfl rfl (by kernel_rfl) rfl (by omega) (by omega) rfl fun b => ?_
    refine AL.freeze_row 0 9 rfl rfl (by simp) (fun x hx => by rw [(List.mem_replicate.1 hx).2]; rfl) ?_
    refine AL.ev rfl rfl rfl rfl ?_
    refine AL.det (AOp.lit (e := 95) (sz := 1) (by kernel_rfl) rfl rfl rfl (by simp [AV.size, ints]) (by decide)) rfl rfl rfl ?_
    have hC' : Tri Tryz.prog 105 [.sl [.sl (List.replicate k (.int .i64 0)), ints p]] [] (D (ints (List.replicate k 0 ++ p)) []) := by
      have e : ints (List.replicate k 0) = .sl (List.replicate k (.int .i64 0)) := by simp [ints, iav]
      rw [← e]; exact hC
    refine AL.det (AOp.call rfl rfl hC') rfl rfl rfl ?_
    refine AL.ev rfl rfl rfl rfl ?_
    refine AL.nil ?_
    first
      | exact AW.retv rfl ⟨rfl, rfl⟩
      | exact AW.donev rfl ⟨rfl, rfl⟩
mutual
def timeS : GStmt → List Int → List Int
  | ⟨k, f, g, r, n, nm, fr, lit, regs, body, els⟩, out =>
    let o := plusP out [1]
    if k = 7 then plusP o (raisedP (timeL body []) 1) else if k = 9 then plusP o (raisedP (timeL body []) n.toNat) else if k = 8 then plusP o (joinP max (timeL body []) (timeL els [])) else o
def timeL : List GStmt → List Int → List Int
  | [], out => out
  | s :: l, out => timeL l (timeS s out)
end
theorem timeS_eq (s : GStmt) (out : List Int) : timeS s out = (let o := plusP out [1]; if s.Kind = 7 then plusP o (raisedP (timeL s.Body []) 1) else if s.Kind = 9 then plusP o (raisedP (timeL s.Body []) s.N.toNat) else if s.Kind = 8 then plusP o (joinP max (timeL s.Body []) (timeL s.Else [])) else o) := by cases s; rfl
theorem plusP_ok {p q : List Int} (hp : PolyOk p) (hq : PolyOk q) : PolyOk (plusP p q) := joinP_ok hp hq fun a b h1 h2 => by omega
theorem raisedP_ok {p : List Int} {k : Nat} (hp : PolyOk p) : PolyOk (raisedP p k) := by
  unfold raisedP
  split
  · intro x h; cases h
  · intro x h
    rcases List.mem_append.1 h with h | h
    · rw [(List.mem_replicate.1 h).2]; omega
    · exact hp x h
theorem one_ok : PolyOk [1] := by intro x h; simp at h; omega
theorem nil_ok : PolyOk [] := by intro x h; cases h
theorem raisedP_len (p : List Int) (k : Nat) : (raisedP p k).length ≤ k + p.length := by
  unfold raisedP; split
  · simp
  · simp
inductive NOk : GStmt → Prop
  | mk {s : GStmt} (h : 0 ≤ s.N ∧ s.N ≤ 12) (hb : ∀ x ∈ s.Body, NOk x) (he : ∀ x ∈ s.Else, NOk x) : NOk s
theorem NOk.n {s : GStmt} (h : NOk s) : 0 ≤ s.N ∧ s.N ≤ 12 := by cases h; assumption
theorem NOk.body {s : GStmt} (h : NOk s) : ∀ x ∈ s.Body, NOk x := by cases h; assumption
theorem NOk.els {s : GStmt} (h : NOk s) : ∀ x ∈ s.Else, NOk x := by cases h; assumption
theorem timeL_facts : ∀ (n : Nat) (l : List GStmt), cntL l ≤ n → (∀ x ∈ l, NOk x) → ∀ out, PolyOk out → PolyOk (timeL l out) ∧ (timeL l out).length ≤ max out.length (13 * cntL l) := by
  intro n
  induction n using Nat.strongRecOn with
  | _ n ih =>
    intro l hn hl
    induction l with
    | nil => intro out ho; rw [timeL]; exact ⟨ho, by omega⟩
    | cons s l ihl =>
      intro out ho
      have hs := hl s (by simp)
      have hcs := cntS_eq s
      have hcl : cntL (s :: l) = cntS s + cntL l := rfl
      have hN := hs.n
      have f1 := ih (cntL s.Body) (by omega) s.Body (Nat.le_refl _) hs.body [] nil_ok
      have f2 := ih (cntL s.Else) (by omega) s.Else (Nat.le_refl _) hs.els [] nil_ok
      have ho1 := plusP_ok ho one_ok
      have lo1 : (plusP out [1]).length = max out.length 1 := joinP_len _ _ _
      have key : PolyOk (timeS s out) ∧ (timeS s out).length ≤ max out.length (13 * cntS s) := by
        rw [timeS_eq]
        simp only
        simp only [List.length_nil] at f1 f2
        split
        · refine ⟨plusP_ok ho1 (raisedP_ok f1.1), ?_⟩
          have h1 : (plusP (plusP out [1]) (raisedP (timeL s.Body []) 1)).length = _ := joinP_len _ _ _
          have h2 := raisedP_len (timeL s.Body []) 1
          rw [h1]; omega
        · split
          · refine ⟨plusP_ok ho1 (raisedP_ok f1.1), ?_⟩
            have h1 : (plusP (plusP out [1]) (raisedP (timeL s.Body []) s.N.toNat)).length = _ := joinP_len _ _ _
            have h2 := raisedP_len (timeL s.Body []) s.N.toNat
            rw [h1]; omega
          · split
            · refine ⟨plusP_ok ho1 (joinP_ok f1.1 f2.1 fun a b h1 h2 => by omega), ?_⟩
              have h1 : (plusP (plusP out [1]) (joinP max (timeL s.Body []) (timeL s.Else []))).length = _ := joinP_len _ _ _
              rw [h1, joinP_len]; omega
            · exact ⟨ho1, by omega⟩
      rw [timeL]
      have h3 := ihl (by omega) (fun x hx => hl x (by simp [hx])) (timeS s out) key.1
      exact ⟨h3.1, by omega⟩
theorem code_time : ∀ (n : Nat) (l : List GStmt), cntL l ≤ n → cntL l ≤ 50000 → l.length ≤ 4611686018427387904 → (∀ x ∈ l, x.Ok) → (∀ x ∈ l, NOk x) → Tri Tryz.prog 35 [.sl (l.map GStmt.av)] [] (D (ints (timeL l [])) []) := by
  intro n
  induction n using Nat.strongRecOn with
  | _ n ih =>
    intro l hn hc hl hok hno
    refine Tri.enter 48 Tryz.func35 rfl rfl rfl rfl fun Fr w0 => ?_
    repeat' (first | refine AW.re 0 1 ?_ | refine AW.re 1 1 ?_ | refine AW.re 2 3 ?_ | refine AW.jt ?_ | refine AW.jf ?_ | refine AW.jj (fun hb => ?_) (fun hb => ?_) | refine AW.go ?_ | fail)
    refine AW.prune [3, 6, 7, 8] (AW.loop (fun m af h => ∃ (i : Nat) (out : List Int), i ≤ l.length ∧ m = l.length - i ∧ af = [(3, ints out), (6, .sl (l.map GStmt.av)), (7, .int .i64 (l.map GStmt.av).length), (8, .int .i64 i)] ∧ h = [] ∧ PolyOk out ∧ out.length ≤ 13 * 50000 ∧ timeL l [] = timeL (l.drop i) out) l.length ⟨0, [], Nat.zero_le _, rfl, rfl, rfl, nil_ok, by simp, rfl⟩ ?_)
    rintro m af h ⟨i, out, hi, rfl, rfl, rfl, ho, hol, he⟩
    refine AW.seq ?_
    by_cases hlt : i < l.length
    · obtain ⟨x, hx⟩ := get_lt hlt
      have hx' : (l.map GStmt.av)[((i : Nat) : Int).toNat]? = some x.st := GStmt.get hx
      have hxm := lG hx
      have hxc := cnt_mem hxm
      have hcs := cntS_eq x
      have hxo := hok x hxm
      have hxn := hno x hxm
      obtain ⟨_, hb1, hb2, he1, he2⟩ := id hxo
      have hN := hxn.n
      have f1 := timeL_facts (cntL x.Body) x.Body (Nat.le_refl _) hxn.body [] nil_ok
      have f2 := timeL_facts (cntL x.Else) x.Else (Nat.le_refl _) hxn.els [] nil_ok
      simp only [List.length_nil] at f1 f2
      have t1 := ih (cntL x.Body) (by omega) x.Body (Nat.le_refl _) (by omega) (by omega) hb2 hxn.body
      have t2 := ih (cntL x.Else) (by omega) x.Else (Nat.le_refl _) (by omega) (by omega) he2 hxn.els
      have c1 := code_plus out [1] ho one_ok (by omega) (by simp)
      have ho1 := plusP_ok ho one_ok
      have lo1 : (plusP out [1]).length = max out.length 1 := joinP_len _ _ _
      have r1 := code_raised (timeL x.Body []) 1 (by omega) (by omega)
      have r2 := code_raised (timeL x.Body []) x.N.toNat (by omega) (by omega)
      rw [Int.toNat_of_nonneg hN.1] at r2
      have l1 := raisedP_len (timeL x.Body []) 1
      have l2 := raisedP_len (timeL x.Body []) x.N.toNat
      have j1 := code_joined (timeL x.Body []) (timeL x.Else []) f1.1 f2.1 (by omega) (by omega) 84 max (fun a b _ _ => time1 a b)
      have lj : (joinP max (timeL x.Body []) (timeL x.Else [])).length = _ := joinP_len _ _ _
      have p1 := code_plus (plusP out [1]) (raisedP (timeL x.Body []) 1) ho1 (raisedP_ok f1.1) (by omega) (by omega)
      have p2 := code_plus (plusP out [1]) (raisedP (timeL x.Body []) x.N.toNat) ho1 (raisedP_ok f1.1) (by omega) (by omega)
      have p3 := code_plus (plusP out [1]) (joinP max (timeL x.Body []) (timeL x.Else [])) ho1 (joinP_ok f1.1 f2.1 fun a b h1 h2 => by omega) (by omega) (by omega)
      have q1 : (plusP (plusP out [1]) (raisedP (timeL x.Body []) 1)).length = _ := joinP_len _ _ _
      have q2 : (plusP (plusP out [1]) (raisedP (timeL x.Body []) x.N.toNat)).length = _ := joinP_len _ _ _
      have q3 : (plusP (plusP out [1]) (joinP max (timeL x.Body []) (timeL x.Else []))).length = _ := joinP_len _ _ _
      rw [drop_cons hx, timeL, timeS_eq] at he
      simp only at he
      repeat' (first | refine AW.re 0 1 ?_ | refine AW.re 1 1 ?_ | refine AW.re 2 3 ?_ | refine AW.re 3 1 ?_ | (refine AW.r 4 ?_; refine AL.d (iX hx') ?_; refine AL.es 1 ?_; refine AL.alloc_store (by kernel_rfl) rfl rfl rfl rfl ?_; refine AL.nil ?_) | (refine xS 5 1 ?_; refine AL.d (AOp.lit (e := 3) (sz := 1) (by kernel_rfl) rfl rfl rfl (by simp [AV.size, ofConst]) (by decide)) ?_; (first | refine AL.d (AOp.call rfl rfl c1) ?_ | refine AL.d (AOp.call rfl rfl t1) ?_ | refine AL.d (AOp.call rfl rfl t2) ?_ | refine AL.d (AOp.call rfl rfl r1) ?_ | refine AL.d (AOp.call rfl rfl r2) ?_ | refine AL.d (AOp.call rfl rfl j1) ?_ | refine AL.d (AOp.call rfl rfl p1) ?_ | refine AL.d (AOp.call rfl rfl p2) ?_ | refine AL.d (AOp.call rfl rfl p3) ?_) <;> refine AL.es 1 ?_ <;> refine AL.nil ?_) | refine AW.re 6 2 ?_ | refine AW.re 7 2 ?_ | (refine xS 8 3 ?_; (first | refine AL.d (AOp.call rfl rfl c1) ?_ | refine AL.d (AOp.call rfl rfl t1) ?_ | refine AL.d (AOp.call rfl rfl t2) ?_ | refine AL.d (AOp.call rfl rfl r1) ?_ | refine AL.d (AOp.call rfl rfl r2) ?_ | refine AL.d (AOp.call rfl rfl j1) ?_ | refine AL.d (AOp.call rfl rfl p1) ?_ | refine AL.d (AOp.call rfl rfl p2) ?_ | refine AL.d (AOp.call rfl rfl p3) ?_) <;> (first | refine AL.d (AOp.call rfl rfl c1) ?_ | refine AL.d (AOp.call rfl rfl t1) ?_ | refine AL.d (AOp.call rfl rfl t2) ?_ | refine AL.d (AOp.call rfl rfl r1) ?_ | refine AL.d (AOp.call rfl rfl r2) ?_ | refine AL.d (AOp.call rfl rfl j1) ?_ | refine AL.d (AOp.call rfl rfl p1) ?_ | refine AL.d (AOp.call rfl rfl p2) ?_ | refine AL.d (AOp.call rfl rfl p3) ?_) <;> (first | refine AL.d (AOp.call rfl rfl c1) ?_ | refine AL.d (AOp.call rfl rfl t1) ?_ | refine AL.d (AOp.call rfl rfl t2) ?_ | refine AL.d (AOp.call rfl rfl r1) ?_ | refine AL.d (AOp.call rfl rfl r2) ?_ | refine AL.d (AOp.call rfl rfl j1) ?_ | refine AL.d (AOp.call rfl rfl p1) ?_ | refine AL.d (AOp.call rfl rfl p2) ?_ | refine AL.d (AOp.call rfl rfl p3) ?_) <;> refine AL.es 1 ?_ <;> refine AL.nil ?_) | refine AW.re 9 2 ?_ | (refine AW.dq 10 ?_; refine AQ.es 3 ?_; (first | refine AQ.p rfl (AOp.call rfl rfl c1) ?_ | refine AQ.p rfl (AOp.call rfl rfl t1) ?_ | refine AQ.p rfl (AOp.call rfl rfl t2) ?_ | refine AQ.p rfl (AOp.call rfl rfl r1) ?_ | refine AQ.p rfl (AOp.call rfl rfl r2) ?_ | refine AQ.p rfl (AOp.call rfl rfl j1) ?_ | refine AQ.p rfl (AOp.call rfl rfl p1) ?_ | refine AQ.p rfl (AOp.call rfl rfl p2) ?_ | refine AQ.p rfl (AOp.call rfl rfl p3) ?_) <;> refine AQ.es 2 ?_ <;> (first | refine AQ.p rfl (AOp.call rfl rfl c1) ?_ | refine AQ.p rfl (AOp.call rfl rfl t1) ?_ | refine AQ.p rfl (AOp.call rfl rfl t2) ?_ | refine AQ.p rfl (AOp.call rfl rfl r1) ?_ | refine AQ.p rfl (AOp.call rfl rfl r2) ?_ | refine AQ.p rfl (AOp.call rfl rfl j1) ?_ | refine AQ.p rfl (AOp.call rfl rfl p1) ?_ | refine AQ.p rfl (AOp.call rfl rfl p2) ?_ | refine AQ.p rfl (AOp.call rfl rfl p3) ?_) <;> (first | refine AQ.p rfl (AOp.call rfl rfl c1) ?_ | refine AQ.p rfl (AOp.call rfl rfl t1) ?_ | refine AQ.p rfl (AOp.call rfl rfl t2) ?_ | refine AQ.p rfl (AOp.call rfl rfl r1) ?_ | refine AQ.p rfl (AOp.call rfl rfl r2) ?_ | refine AQ.p rfl (AOp.call rfl rfl j1) ?_ | refine AQ.p rfl (AOp.call rfl rfl p1) ?_ | refine AQ.p rfl (AOp.call rfl rfl p2) ?_ | refine AQ.p rfl (AOp.call rfl rfl p3) ?_) <;> refine AQ.es 1 ?_ <;> refine AQ.nil ?_) | refine AW.re 11 2 ?_ | (refine AW.dq 12 ?_; refine AQ.es 3 ?_; (first | refine AQ.p rfl (AOp.call rfl rfl c1) ?_ | refine AQ.p rfl (AOp.call rfl rfl t1) ?_ | refine AQ.p rfl (AOp.call rfl rfl t2) ?_ | refine AQ.p rfl (AOp.call rfl rfl r1) ?_ | refine AQ.p rfl (AOp.call rfl rfl r2) ?_ | refine AQ.p rfl (AOp.call rfl rfl j1) ?_ | refine AQ.p rfl (AOp.call rfl rfl p1) ?_ | refine AQ.p rfl (AOp.call rfl rfl p2) ?_ | refine AQ.p rfl (AOp.call rfl rfl p3) ?_) <;> refine AQ.es 2 ?_ <;> (first | refine AQ.p rfl (AOp.call rfl rfl c1) ?_ | refine AQ.p rfl (AOp.call rfl rfl t1) ?_ | refine AQ.p rfl (AOp.call rfl rfl t2) ?_ | refine AQ.p rfl (AOp.call rfl rfl r1) ?_ | refine AQ.p rfl (AOp.call rfl rfl r2) ?_ | refine AQ.p rfl (AOp.call rfl rfl j1) ?_ | refine AQ.p rfl (AOp.call rfl rfl p1) ?_ | refine AQ.p rfl (AOp.call rfl rfl p2) ?_ | refine AQ.p rfl (AOp.call rfl rfl p3) ?_) <;> (first | refine AQ.p rfl (AOp.call rfl rfl c1) ?_ | refine AQ.p rfl (AOp.call rfl rfl t1) ?_ | refine AQ.p rfl (AOp.call rfl rfl t2) ?_ | refine AQ.p rfl (AOp.call rfl rfl r1) ?_ | refine AQ.p rfl (AOp.call rfl rfl r2) ?_ | refine AQ.p rfl (AOp.call rfl rfl j1) ?_ | refine AQ.p rfl (AOp.call rfl rfl p1) ?_ | refine AQ.p rfl (AOp.call rfl rfl p2) ?_ | refine AQ.p rfl (AOp.call rfl rfl p3) ?_) <;> (first | refine AQ.p rfl (AOp.call rfl rfl c1) ?_ | refine AQ.p rfl (AOp.call rfl rfl t1) ?_ | refine AQ.p rfl (AOp.call rfl rfl t2) ?_ | refine AQ.p rfl (AOp.call rfl rfl r1) ?_ | refine AQ.p rfl (AOp.call rfl rfl r2) ?_ | refine AQ.p rfl (AOp.call rfl rfl j1) ?_ | refine AQ.p rfl (AOp.call rfl rfl p1) ?_ | refine AQ.p rfl (AOp.call rfl rfl p2) ?_ | refine AQ.p rfl (AOp.call rfl rfl p3) ?_) <;> refine AQ.es 1 ?_ <;> refine AQ.nil ?_) | (refine AW.r 13 ?_; refine AL.d AOp.ad ?_; refine xN 1 ?_) | refine AW.re 14 2 ?_ | refine AW.jt ?_ | refine AW.jf ?_ | refine AW.jj (fun hb => ?_) (fun hb => ?_) | refine AW.go ?_ | fail)
      all_goals try (exfalso; simp only [dT, dF, lM, beq_iff_eq, beq_eq_false_iff_ne, ne_eq] at *; omega)
      all_goals simp only [beq_iff_eq, beq_eq_false_iff_ne, ne_eq] at *
      all_goals first
        | exact AW.again_keep (l.length - (i + 1)) [3, 6, 7, 8] (by omega) ⟨i + 1, plusP (plusP out [1]) (raisedP (timeL x.Body []) 1), hlt, rfl, rfl, rfl, plusP_ok ho1 (raisedP_ok f1.1), by omega, by rw [he, if_pos (by assumption)]⟩
        | exact AW.again_keep (l.length - (i + 1)) [3, 6, 7, 8] (by omega) ⟨i + 1, plusP (plusP out [1]) (raisedP (timeL x.Body []) x.N.toNat), hlt, rfl, rfl, rfl, plusP_ok ho1 (raisedP_ok f1.1), by omega, by rw [he, if_neg (by assumption), if_pos (by assumption)]⟩
        | exact AW.again_keep (l.length - (i + 1)) [3, 6, 7, 8] (by omega) ⟨i + 1, plusP (plusP out [1]) (joinP max (timeL x.Body []) (timeL x.Else [])), hlt, rfl, rfl, rfl, plusP_ok ho1 (joinP_ok f1.1 f2.1 fun a b h1 h2 => by omega), by omega, by rw [he, if_neg (by assumption), if_neg (by assumption), if_pos (by assumption)]⟩
        | exact AW.again_keep (l.length - (i + 1)) [3, 6, 7, 8] (by omega) ⟨i + 1, plusP out [1], hlt, rfl, rfl, rfl, ho1, by omega, by rw [he, if_neg (by assumption), if_neg (by assumption), if_neg (by assumption)]⟩
    · rw [List.drop_eq_nil_of_le (by omega), timeL] at he
      repeat' (first | refine AW.re 3 1 ?_ | refine AW.re 14 2 ?_ | refine AW.jt ?_ | refine AW.jf ?_ | refine AW.jj (fun hb => ?_) (fun hb => ?_) | refine AW.go ?_ | fail)
      all_goals first
        | (exfalso; simp only [dT, dF, lM] at *; omega)
        | exact AW.retv rfl ⟨by rw [he], rfl⟩
        | exact AW.donev rfl ⟨by rw [he], rfl⟩
def Bd (p : List Int) : Prop := ∀ x ∈ p, 0 ≤ x ∧ x ≤ 1000000
section
variable {C : Cx} {ds : List Deferred} {ks : List K} {af : AF} {ah : AH} {ops : Array Oper} {rest : List Oper}
end
theorem wgt_cnt (most : Int) : ∀ (n : Nat) (l : List GStmt), cntL l ≤ n → (∀ x ∈ l, x.Ok) → ∀ a, a ≤ wgtL most l a ∧ (wgtL most l a ≤ most → a + cntL l ≤ wgtL most l a) := by
  intro n
  induction n using Nat.strongRecOn with
  | _ n ih =>
    intro l hn hl
    induction l with
    | nil => intro a; rw [wgtL]; exact ⟨Int.le_refl _, fun _ => by show a + (0 : Nat) ≤ a; omega⟩
    | cons s l ihl =>
      intro a
      have hs := hl s (by simp)
      have hcs := cntS_eq s
      have hcl : cntL (s :: l) = cntS s + cntL l := rfl
      have hw := ownW_le hs
      obtain ⟨_, _, hb, _, he⟩ := hs
      have h1 := ih (cntL s.Body) (by omega) s.Body (Nat.le_refl _) hb (a + ownW s)
      have h2 := ih (cntL s.Else) (by omega) s.Else (Nat.le_refl _) he (wgtL most s.Body (a + ownW s))
      have h3 := ihl (by omega) (fun x hx => hl x (by simp [hx])) (wgtS most s a)
      rw [wgtS_eq] at h3
      rw [wgtL]
      split
      · rw [wgtS_eq]
        exact ⟨by omega, fun h => by have := h3.2 h; have := h2.2 (by omega); have := h1.2 (by omega); omega⟩
      · exact ⟨Int.le_refl _, fun h => by omega⟩
theorem few_cnt_ {most : Nat} {c : GCode} (hc : c.Ok) (h : fewC c most = true) : cntL c.Body ≤ most := by
  simp only [fewC, bA, dT] at h
  have := (wgt_cnt most (cntL c.Body) c.Body (Nat.le_refl _) hc.2.2.2.2 0).2 h.2
  omega
theorem Bd.ok {p : List Int} (h : Bd p) : PolyOk p := fun x hx => by have := h x hx; omega
theorem Fit.mono {F R : Nat} {sig sig' : ByteArray → Option Nat} {s : GStmt} (h : Fit F R sig s) (hs : ∀ k a, sig k = some a → sig' k = some a) : Fit F R sig' s := { h with
  name := fun hu => let ⟨a, ha⟩ := h.name hu; ⟨a, hs _ _ ha⟩
  store := fun hu => hs _ _ (h.store hu)
  frm := fun hu => by
    obtain ⟨a, ha⟩ := h.name (use_name h.kind (.inr hu))
    rw [hs _ _ ha, hs _ _ ((h.frm hu).trans ha)]
  lit := fun hu => by
    obtain ⟨h1, h2⟩ := h.lit hu
    refine ⟨h1, ?_⟩
    split
    · rename_i hk; rw [if_pos hk] at h2; exact h2
    · rename_i hk; rw [if_neg hk] at h2; exact ⟨h2.1, hs _ _ h2.2⟩ }
theorem SFit.mono {F R : Nat} {sig sig' : ByteArray → Option Nat} (hs : ∀ k a, sig k = some a → sig' k = some a) {s : GStmt} (h : SFit F R sig s) : SFit F R sig' s := by
  induction h with
  | mk h hb he ihb ihe => exact .mk (h.mono hs) ihb ihe
theorem Ext.sig {a b : Chk} (h : Ext a b) (hb : b.bad = false) : ∀ k n, sigS a.A a.S k = some n → sigS b.A b.S k = some n := by
  intro k n hk
  unfold sigS at hk ⊢
  rw [h.A]
  cases hA : lookA a.A k with
  | some x => rw [hA] at hk; exact hk
  | none =>
    rw [hA] at hk
    simp only at hk ⊢
    cases hS : lookA a.S k with
    | none => rw [hS] at hk; cases hk
    | some x => rw [hS] at hk; rw [h.look hb k x hS]; exact hk
theorem enter_ok (st : Chk) (s : GStmt) (level : Int) : Ext st (st.enter s level) ∧ ((st.enter s level).bad = false → 0 ≤ s.Kind ∧ s.Kind < 15) := by
  refine ⟨(⟨rfl, rfl, id, id, fun _ _ _ h => h⟩ : Ext st { st with cnt := st.cnt + 1 }).trans (ext_need _ _), fun h => ?_⟩
  have := need_ok h
  simp only [bA, dT] at this
  exact this.1.1
mutual
theorem stmt_ok : ∀ (s : GStmt) (level : Int) (st : Chk), Ext st (stmtP s level st) ∧ ((stmtP s level st).bad = false → SFit st.c.Flags.toNat st.c.Regs.toNat (sigS (stmtP s level st).A (stmtP s level st).S) s)
  | ⟨k, f, g, r, n, nm, fr, lit, regs, body, els⟩, level, st => by
    rw [stmtP]
    try simp only
    have h1 := enter_ok st ⟨k, f, g, r, n, nm, fr, lit, regs, body, els⟩ level
    generalize st.enter ⟨k, f, g, r, n, nm, fr, lit, regs, body, els⟩ level = s1 at h1 ⊢
    by_cases hb : s1.bad = true
    · rw [if_pos hb]; exact ⟨h1.1, fun h => by rw [hb] at h; cases h⟩
    · rw [if_neg hb]
      have hb' : s1.bad = false := by simpa using hb
      have h2 := flds_ok s1 ⟨k, f, g, r, n, nm, fr, lit, regs, body, els⟩
      generalize hs2 : s1.flds ⟨k, f, g, r, n, nm, fr, lit, regs, body, els⟩ = s2 at h2 ⊢
      have h3 := list_ok body (level + 1) s2
      have x2 := h1.1.trans h2.1
      by_cases hp : (listP body (level + 1) s2).2 = true
      · rw [if_pos hp]
        refine ⟨x2.trans h3.1, fun h => ?_⟩
        rw [(h3.2 h).1] at hp; cases hp
      · rw [if_neg hp]
        have h4 := list_ok els (level + 1) (listP body (level + 1) s2).1
        have x3 := x2.trans h3.1
        refine ⟨x3.trans h4.1, fun h => ?_⟩
        have b3 := h4.1.bad h
        have b2 := h3.1.bad b3
        have hc1 : s1.c = st.c := h1.1.c
        have hc2 : s2.c = st.c := x2.c
        have hc3 : (listP body (level + 1) s2).1.c = st.c := x3.c
        have g1 := h2.2 b2 (h1.2 hb')
        have g2 := (h3.2 b3).2
        have g3 := (h4.2 h).2
        rw [hc1] at g1
        rw [hc2] at g2
        rw [hc3] at g3
        exact .mk (g1.mono ((h3.1.trans h4.1).sig h)) (fun x hx => (g2 x hx).mono (h4.1.sig h)) g3
theorem list_ok : ∀ (l : List GStmt) (level : Int) (st : Chk), Ext st (listP l level st).1 ∧ ((listP l level st).1.bad = false → (listP l level st).2 = false ∧ ∀ x ∈ l, SFit st.c.Flags.toNat st.c.Regs.toNat (sigS (listP l level st).1.A (listP l level st).1.S) x)
  | [], level, st => by rw [listP]; exact ⟨Ext.refl st, fun _ => ⟨rfl, by simp⟩⟩
  | x :: l, level, st => by
    have h1 := stmt_ok x level st
    rw [listP]
    try simp only
    generalize stmtP x level st = s1 at h1 ⊢
    by_cases hb : s1.bad = true
    · rw [if_pos hb]; exact ⟨h1.1, fun h => by simp only at h; rw [hb] at h; cases h⟩
    · rw [if_neg hb]
      have h2 := list_ok l level s1
      refine ⟨h1.1.trans h2.1, fun h => ⟨(h2.2 h).1, fun y hy => ?_⟩⟩
      have hc : s1.c = st.c := h1.1.c
      rcases List.mem_cons.1 hy with rfl | hy
      · exact (h1.2 (by simpa using hb)).mono (h2.1.sig h)
      · have := (h2.2 h).2 y hy
        rw [hc] at this; exact this
end
theorem body_ok : ∀ (l : List GStmt) (st : Chk), Ext st (bodyP l st) ∧ ((bodyP l st).bad = false → ∀ x ∈ l, SFit st.c.Flags.toNat st.c.Regs.toNat (sigS (bodyP l st).A (bodyP l st).S) x)
  | [], st => ⟨Ext.refl st, fun _ x h => by cases h⟩
  | x :: l, st => by
    rw [bodyP]
    by_cases hb : st.bad = true
    · rw [if_pos hb]; exact ⟨Ext.refl st, fun h => by rw [hb] at h; cases h⟩
    · rw [if_neg hb]
      have h1 := stmt_ok x 1 st
      have h2 := body_ok l (stmtP x 1 st)
      refine ⟨h1.1.trans h2.1, fun h y hy => ?_⟩
      have hc : (stmtP x 1 st).c = st.c := h1.1.c
      rcases List.mem_cons.1 hy with rfl | hy
      · exact (h1.2 (h2.1.bad h)).mono (h2.1.sig h)
      · have := h2.2 h y hy
        rw [hc] at this; exact this
structure Arrs (l : List GSym) (st : Chk) : Prop where
  nodup : (l.map (·.Name)).Nodup
  look : ∀ a ∈ l, lookA st.A a.Name = some a.Arity
  only : ∀ k n, lookA st.A k = some n → ∃ a ∈ l, a.Name = k ∧ a.Arity = n
  ar : ∀ a ∈ l, 0 ≤ a.Arity ∧ a.Arity ≤ 12
theorem arrs_ok : ∀ (l pre : List GSym) (st : Chk) (g : MG), (st.bad = false → Arrs pre st) → (arrsP l st g).1.c = st.c ∧ (arrsP l st g).1.S = st.S ∧ ((arrsP l st g).1.bad = false → st.bad = false ∧ Arrs (pre ++ l) (arrsP l st g).1)
  | [], pre, st, g, h => ⟨rfl, rfl, fun hb => ⟨hb, by rw [List.append_nil]; exact h hb⟩⟩
  | a :: l, pre, st, g, h => by
    rw [arrsP]
    have ih := arrs_ok l (pre ++ [a]) (st.arr a) (gsetA st.A g a.Name) (fun hb => by
      have hn := need_ok hb
      have hb0 : st.bad = false := (ext_need st _).bad hb
      simp only [bA, dT, Bool.not_eq_true', Option.isSome_eq_false_iff, Option.isNone_iff_eq_none] at hn
      obtain ⟨h1, h2, h3, h4⟩ := h hb0
      have hnew : a.Name ∉ pre.map (·.Name) := fun hm => by
        obtain ⟨b, hb, e⟩ := List.mem_map.1 hm
        have := h2 b hb
        rw [e, hn.1.1.1] at this; cases this
      refine ⟨?_, fun b hb => ?_, fun k n hk => ?_, fun b hb => ?_⟩
      · rw [List.map_append, List.nodup_append]
        exact ⟨h1, by simp, fun x hx y hy e => by simp at hy; subst hy; subst e; exact hnew hx⟩
      · show lookA (setA st.A a.Name a.Arity) b.Name = _
        rw [look_setA]
        rcases List.mem_append.1 hb with hb | hb
        · have hne : ¬ b.Name = a.Name := fun e => hnew (e ▸ List.mem_map_of_mem hb)
          rw [if_neg hne]; exact h2 b hb
        · simp at hb; subst hb; rw [if_pos rfl]
      · have hk' : lookA (setA st.A a.Name a.Arity) k = some n := hk
        rw [look_setA] at hk'
        by_cases e : k = a.Name
        · rw [if_pos e] at hk'; cases hk'; exact ⟨a, by simp, e.symm, rfl⟩
        · rw [if_neg e] at hk'
          obtain ⟨b, hb, h5⟩ := h3 k n hk'
          exact ⟨b, List.mem_append_left _ hb, h5⟩
      · rcases List.mem_append.1 hb with hb | hb
        · exact h4 b hb
        · simp at hb; subst hb; exact ⟨hn.1.2, hn.2⟩)
    refine ⟨ih.1, ih.2.1, fun hb => ?_⟩
    obtain ⟨k1, k2⟩ := ih.2.2 hb
    rw [List.append_assoc] at k2
    exact ⟨(ext_need st _).bad k1, k2⟩
theorem chk_ok {c : GCode} (hb : (checkedP c).bad = false) : ChkOk c := by
  obtain ⟨q1, q2, q3⟩ := arrs_ok c.Arrays [] (chk0 c) ⟨[], 0⟩ (fun _ => ⟨by simp, by simp, (fun k n h => by cases h), by simp⟩)
  obtain ⟨p1, p2⟩ := body_ok c.Body (arrsP c.Arrays (chk0 c) ⟨[], 0⟩).1
  have hb1 := p1.bad hb
  obtain ⟨r1, r2, r3, r4, r5⟩ := q3 hb1
  have h0 := need_ok r1
  simp only [bA, dT] at h0
  have hc0 : (chk0 c).c = c := rfl
  have hA : (checkedP c).A = (arrsP c.Arrays (chk0 c) ⟨[], 0⟩).1.A := p1.A
  have hinv : Inv (checkedP c) := p1.inv ⟨by rw [q2]; simp [chk0, Chk.need], by rw [q2]; simp [chk0, Chk.need], by rw [q2]; simp [chk0, Chk.need]⟩
  rw [List.nil_append] at r2 r3 r4 r5
  exact {
    flags := ⟨h0.1.1.1.1, h0.1.1.1.2⟩
    regs := ⟨h0.1.1.2, h0.1.2⟩
    keys := hinv.1
    arrs := r2
    apart := fun a ha hm => by have := hinv.2.1 _ hm; rw [hA, r3 a ha] at this; cases this
    look := fun a ha => by rw [hA]; exact r3 a ha
    only := fun k n h => by rw [hA] at h; exact r4 k n h
    ar := r5
    sar := hinv.2.2 hb
    body := by
      have := p2 hb
      rw [q1, hc0] at this
      exact this }
def symR (s : GStr) (st : Chk) (k : ByteArray) : List Bool := match lookA st.S k with | some a => tableR s k a | none => []
def arrR (s : GStr) (st : Chk) : List GSym → ByteArray → List Bool
  | [] => symR s st
  | a :: l => upd (arrR s st l) a.Name (List.replicate (powerR s.Size a.Arity).1.toNat false)
def msr (c : GCode) (rels : ByteArray → List Bool) : MS := ⟨List.replicate c.Flags.toNat false, List.replicate c.Regs.toNat 0, rels, 0, 0⟩
theorem arrR_mem {s : GStr} {st : Chk} : ∀ {l : List GSym}, (l.map (·.Name)).Nodup → ∀ a ∈ l, arrR s st l a.Name = List.replicate (powerR s.Size a.Arity).1.toNat false
  | [], _, a, h => by cases h
  | b :: l, hn, a, h => by
    simp only [List.map_cons, List.nodup_cons] at hn
    rw [arrR]
    rcases List.mem_cons.1 h with rfl | h
    · rw [upd_same]
    · rw [upd_ne, arrR_mem hn.2 a h]
      intro e
      exact hn.1 (e ▸ List.mem_map_of_mem h)
theorem arrR_not {s : GStr} {st : Chk} {k : ByteArray} : ∀ {l : List GSym}, k ∉ l.map (·.Name) → arrR s st l k = symR s st k
  | [], _ => rfl
  | b :: l, h => by
    simp only [List.map_cons, List.mem_cons, not_or] at h
    rw [arrR, upd_ne _ _ h.1, arrR_not h.2]
theorem arrR_all {c : GCode} {s : GStr} (hck : ChkOk c) {l : List GSym} (hl : l.Perm c.Arrays) : arrR s (checkedP c) l = initR s (checkedP c) := by
  funext k
  have hnd : (l.map (·.Name)).Nodup := ((hl.map (·.Name)).nodup_iff).2 hck.arrs
  by_cases h : k ∈ l.map (·.Name)
  · obtain ⟨a, ha, rfl⟩ := List.mem_map.1 h
    rw [arrR_mem hnd a ha, initR, hck.look a (hl.mem_iff.1 ha)]
  · rw [arrR_not h, initR, symR]
    cases hA : lookA (checkedP c).A k with
    | none => rfl
    | some n =>
      obtain ⟨a, ha, rfl, _⟩ := hck.only k n hA
      exact (h (List.mem_map_of_mem (hl.mem_iff.2 ha))).elim
theorem sym_mem {A : List (ByteArray × Int)} {k : ByteArray} {n : Int} (h : lookA A k = some n) : (k, n) ∈ A := by
  induction A with
  | nil => cases h
  | cons p A ih =>
    obtain ⟨k', w⟩ := p
    simp only [lookA] at h
    by_cases e : k = k'
    · rw [if_pos e] at h; cases h; subst e; simp
    · rw [if_neg e] at h; exact List.mem_cons_of_mem _ (ih h)
theorem m0_fit {c : GCode} {s : GStr} {G : List Bool} {fuel : Int} (hG : G.length ≤ 4611686018427387904) (hok : RunOk c s fuel) (hck : ChkOk c) (B : Blk) (hnd : B.names.Nodup) (hnm : ∀ k, k ∈ (checkedP c).S.map (·.1) ∨ k ∈ c.Arrays.map (·.Name) → k ∈ B.names) :
    MFit c.Flags.toNat c.Regs.toNat (sigOf c) ⟨s.Size, G, fuel⟩ B (m0 c s) := by
  obtain ⟨v1, v2, v3⟩ := valid_rel hok.valid
  have hfl := hck.flags
  have hrg := hck.regs
  exact {
    n := ⟨v1, v2⟩
    fuel := hok.fuel
    glen := hG
    flen := by simp [m0]
    fl := by omega
    rlen := by simp [m0]
    rl := by omega
    regs := fun x hx => by simp only [m0, List.mem_replicate] at hx; rw [hx.2]; exact ⟨by omega, v1⟩
    used := ⟨by simp [m0], by simp [m0]⟩
    steps := ⟨by simp [m0], hok.fuel.1⟩
    nodup := hnd
    sig := fun k a h => by
      unfold sigOf at h
      show k ∈ B.names ∧ ((initR s (checkedP c) k).length : Int) = s.Size ^ a ∧ s.Size ^ a ≤ 4096
      unfold initR
      cases hA : lookA (checkedP c).A k with
      | some ar =>
        rw [hA] at h
        simp only [Option.some.injEq] at h
        subst h
        obtain ⟨x, hx, rfl, rfl⟩ := hck.only k ar hA
        have hp := power_val (hok.size x hx)
        refine ⟨hnm _ (.inr (List.mem_map_of_mem hx)), ?_, hp.2.1⟩
        simp only [List.length_replicate]
        rw [hp.1]; omega
      | none =>
        rw [hA] at h
        simp only at h
        cases hS : lookA (checkedP c).S k with
        | none => rw [hS] at h; cases h
        | some ar =>
          rw [hS] at h
          simp only [Option.map_some, Option.some.injEq] at h
          subst h
          have hm := sym_mem hS
          obtain ⟨r, hr, hr1, hr2, _⟩ := find_rel (hok.found _ hm)
          have hrb := v3 r (lG hr)
          have hp := power_val (rel_power v1 v2 hrb).1
          have hr2 : r.Arity = ar := hr2
          rw [hr2] at hp
          refine ⟨hnm _ (.inl (List.mem_map_of_mem hm)), ?_, hp.2.1⟩
          simp only [tableR, hr]
          rw [tabGo_len, List.length_replicate, hr2, hp.1]
          omega }
theorem run_t7 (c : GCode) (s : GStr) (G : List Bool) (fuel : Int) (hc : c.Ok) (hG : G.length ≤ 4611686018427387904) (hbad : (checkedP c).bad = false) (hval : validStr s = true) (hfound : ∀ p ∈ (checkedP c).S, 0 ≤ findI s p.1 p.2) (hf : 0 ≤ fuel ∧ fuel ≤ 10000000) (hck : ChkOk c) (b ba bs r1 r2 r3 r4 : Nat) (gA : MG) (B : Blk)
    (hnd : B.names.Nodup) (hnm : ∀ k, k ∈ B.names ↔ k ∈ (checkedP c).S.map (·.1)) (Fr : Rg) (w0 : World) :
    AW (CofD Tryz.prog Tryz.f12 179 Fr (reg []) w0 (RunPost c s G fuel)) [] [.c (fst1 (fst1 (sndN 7 (bodyOf Tryz.f12)))), .c (sndN 1 (fst1 (sndN 7 (bodyOf Tryz.f12)))), .c (sndN 8 (bodyOf Tryz.f12))] (runAF c s G fuel b r1 r2 r3 r4 B.mb) ((checkedP c).ah b ba bs gA ++ resAH r1 r2 r3 r4 false 0 0 0 ++ (msr c (symR s (checkedP c))).ah ⟨s.Size, G, fuel⟩ B) := by
  have hca := hc.2.2.1
  have hal : c.Arrays.length ≤ 4611686018427387904 := by have := hca.1; omega
  repeat' (first | refine AW.re 24 4 ?_ | refine AW.jt ?_ | refine AW.jf ?_ | refine AW.jj (fun hb => ?_) (fun hb => ?_) | refine AW.go ?_ | fail)
  refine AW.prune [2, 3, 4, 5, 8, 9, 10, 11, 12, 15, 135, 136, 137] (AW.loop (fun m af h => ∃ (i : Nat) (B' : Blk), i ≤ c.Arrays.length ∧ m = c.Arrays.length - i ∧ af = runAF c s G fuel b r1 r2 r3 r4 B.mb ++ [(135, .sl (c.Arrays.map GSym.av)), (136, .int .i64 (c.Arrays.map GSym.av).length), (137, .int .i64 i)] ∧ h = (checkedP c).ah b ba bs gA ++ resAH r1 r2 r3 r4 false 0 0 0 ++ (msr c (arrR s (checkedP c) (c.Arrays.take i).reverse)).ah ⟨s.Size, G, fuel⟩ B' ∧ B'.mb = B.mb ∧ B'.names.Nodup ∧ (∀ k, k ∈ B'.names ↔ k ∈ (checkedP c).S.map (·.1) ∨ k ∈ (c.Arrays.take i).map (·.Name)) ∧ ∀ a ∈ c.Arrays.take i, (powerR s.Size a.Arity).2 = 0) c.Arrays.length ⟨0, B, Nat.zero_le _, rfl, rfl, rfl, rfl, hnd, by simpa using hnm, by simp⟩ ?_)
  rintro m af h ⟨i, B', hi, rfl, rfl, rfl, hmb, hnd', hnm', hsz⟩
  refine AW.seq ?_
  by_cases hlt : i < c.Arrays.length
  · obtain ⟨x, hx⟩ := get_lt hlt
    have hx' : (c.Arrays.map GSym.av)[((i : Nat) : Int).toNat]? = some x.av := map_get hx
    have hxm := lG hx
    have hpw := shape_Power s.Size x.Arity
    repeat' (first | refine AW.re 25 1 ?_ | (refine AW.r 26 ?_; refine AL.d (iX hx') ?_; refine AL.es 1 ?_; refine AL.alloc_store (by kernel_rfl) rfl rfl rfl rfl ?_; refine AL.nil ?_) | (refine xS 27 4 ?_; refine AL.d (AOp.call rfl rfl (hpw.pure _)) ?_; refine xN 5 ?_) | refine AW.re 28 2 ?_ | refine AW.jt ?_ | refine AW.jf ?_ | refine AW.jj (fun hb => ?_) (fun hb => ?_) | refine AW.go ?_ | fail)
    all_goals try (exfalso; simp only [dT, dF, lM] at *; omega)
    · repeat' (first | (refine AW.r 29 ?_; (first | refine AL.sl 0 ?_ | refine AL.sl 1 ?_ | refine AL.sl 2 ?_ | refine AL.sl 3 ?_ | refine AL.sl 4 ?_ | refine AL.sl 5 ?_ | refine AL.sl 6 ?_) <;> (first | refine AL.sl 0 ?_ | refine AL.sl 1 ?_ | refine AL.sl 2 ?_ | refine AL.sl 3 ?_ | refine AL.sl 4 ?_ | refine AL.sl 5 ?_ | refine AL.sl 6 ?_) <;> (first | refine AL.sl 0 ?_ | refine AL.sl 1 ?_ | refine AL.sl 2 ?_ | refine AL.sl 3 ?_ | refine AL.sl 4 ?_ | refine AL.sl 5 ?_ | refine AL.sl 6 ?_) <;> (first | refine AL.sl 0 ?_ | refine AL.sl 1 ?_ | refine AL.sl 2 ?_ | refine AL.sl 3 ?_ | refine AL.sl 4 ?_ | refine AL.sl 5 ?_ | refine AL.sl 6 ?_) <;> refine AL.nil ?_) | refine AW.jt ?_ | refine AW.jf ?_ | refine AW.jj (fun hb => ?_) (fun hb => ?_) | refine AW.go ?_ | fail)
      exact AW.retD0 (.cell 3 rfl rfl (by kernel_rfl) (.cell 4 rfl rfl (by kernel_rfl) (.cell 5 rfl rfl (by kernel_rfl) (.cell 6 rfl rfl (by kernel_rfl) .nil)))) ⟨_, _, _, _, .size hbad hval hfound hf x hxm (by simpa using hb), rfl⟩
    · have hp0 : (powerR s.Size x.Arity).2 = 0 := by simpa using hb
      have hpv := power_val hp0
      have hVx : (some (AV.int .i64 (powerR s.Size x.Arity).1)) = some (AV.int .i64 ((powerR s.Size x.Arity).1.toNat : Nat)) := by rw [Int.toNat_of_nonneg (by rw [hpv.1]; exact hpv.2.2)]
      have hVb : (powerR s.Size x.Arity).1.toNat ≤ 4096 := by rw [hpv.1]; omega
      have htk : c.Arrays.take (i + 1) = c.Arrays.take i ++ [x] := by rw [List.take_add_one, hx]; rfl
      have hnew : x.Name ∉ B'.names := by
        rw [hnm']
        rintro (h | h)
        · exact hck.apart x hxm h
        · have h1 := hck.arrs
          rw [← List.take_append_drop i c.Arrays, drop_cons hx, List.map_append, List.nodup_append] at h1
          exact h1.2.2 _ h _ (by simp) rfl
      refine AW.prune [2, 3, 4, 5, 8, 9, 10, 11, 12, 15, 25, 26, 135, 136, 137] ?_
      have hmbx : (some (AV.ref B.mb 0)) = some (AV.ref B'.mb 0) := by rw [hmb]
      refine AW.explore [false, false, false, false, false, false, false, false, false, false, true] [7, 8] rfl (by kernel_rfl) (by kernel_rfl) (by kernel_rfl) (by kernel_rfl) ?_
      refine AQE.ev rfl (show evalOp _ _ = some (AV.ref B'.mb 0) from hmbx) rfl rfl ?_
      repeat' (first
        | refine AQE.hole rfl rfl ?_
        | refine AQE.ev rfl rfl rfl rfl ?_
        | refine AQE.op rfl (AOp.field_at rfl rfl (by kernel_rfl) rfl) rfl rfl ?_
        | refine AQE.op rfl (AOp.field_ref (k := 3) (off := 3) rfl (by kernel_rfl)) rfl rfl ?_
        | refine AQE.op rfl (AOp.load_at rfl rfl (by kernel_rfl)) rfl rfl ?_
        | refine AQE.op rfl (AOp.load_leaf 7 rfl rfl rfl rfl (by kernel_rfl)) rfl rfl ?_
        | refine AQE.nil ?_)
      refine AX.one (n := 1) 7 rfl ?_
      refine AXS.new (i := 7) rfl rfl rfl (AOp.makeSlice (n := (powerR s.Size x.Arity).1.toNat) (e := 4) (c := .bool false) (z := .bool false) (bytes := 1) hVx hVx (by kernel_rfl) rfl (by omega) (by omega)) (fun nb => ?_)
      dsimp only [sA, sB]
      refine AX.one (n := 0) 8 rfl ?_
      refine AXS.step (i := 8) rfl rfl rfl (AOp.mapUpdate (i := 1) (kd := .string) (e := 78) (k := .str x.Name) (v := .osl nb (powerR s.Size x.Arity).1.toNat (powerR s.Size x.Arity).1.toNat) rfl rfl rfl rfl (by kernel_rfl) rfl (keysOK_kvW _ _)) ?_ (by rintro _ _ ⟨⟨_, e⟩, _⟩; cases e)
      rintro _ _ ⟨⟨_, e⟩, rfl⟩
      dsimp only [sA, sB]
      refine AX.done [(2, bools G), (3, .int .i64 fuel), (4, .at c.av), (5, .at s.av), (8, .ref r1 0), (9, .ref r2 0), (10, .ref r3 0), (11, .ref r4 0), (12, .ref b 0), (15, .ref B.mb 0), (135, .sl (c.Arrays.map GSym.av)), (136, .int .i64 (c.Arrays.map GSym.av).length), (137, .int .i64 i)] rfl ?_
      refine AW.perm (ah_new ⟨s.Size, G, fuel⟩ B' (msr c (arrR s (checkedP c) (c.Arrays.take i).reverse)) ((checkedP c).ah b ba bs gA ++ resAH r1 r2 r3 r4 false 0 0 0) hnew nb (List.replicate (powerR s.Size x.Arity).1.toNat false) _ (List.length_replicate ..).symm _ (List.map_replicate ..).symm) ?_
      repeat' (first | (refine AW.r 31 ?_; refine AL.d AOp.ad ?_; refine xN 1 ?_) | refine AW.jt ?_ | refine AW.jf ?_ | refine AW.jj (fun hb => ?_) (fun hb => ?_) | refine AW.go ?_ | fail)
      refine AW.again_keep (c.Arrays.length - (i + 1)) [2, 3, 4, 5, 8, 9, 10, 11, 12, 15, 135, 136, 137] (by omega) ⟨i + 1, B'.add x.Name nb (gset (kvW oslv (relA B' (msr c (arrR s (checkedP c) (c.Arrays.take i).reverse)))) B'.gl (.str x.Name)), hlt, rfl, rfl, ?_, hmb, ?_, ?_, ?_⟩
      · rw [htk, List.reverse_append]; rfl
      · show (B'.names ++ [x.Name]).Nodup
        rw [List.nodup_append]
        exact ⟨hnd', by simp, fun a ha b hb e => by simp at hb; subst hb; subst e; exact hnew ha⟩
      · intro k
        show k ∈ B'.names ++ [x.Name] ↔ _
        rw [htk, List.map_append, List.mem_append, List.mem_append, hnm', or_assoc]
        rfl
      · intro a ha
        rw [htk] at ha
        rcases List.mem_append.1 ha with h | h
        · exact hsz a h
        · simp at h; subst h; exact hp0
  · have hi2 : i = c.Arrays.length := by omega
    subst hi2
    rw [List.take_length] at hnm' hsz
    repeat' (first | refine AW.re 25 1 ?_ | refine AW.jt ?_ | refine AW.jf ?_ | refine AW.jj (fun hb => ?_) (fun hb => ?_) | refine AW.go ?_ | fail)
    all_goals try (exfalso; simp only [dT, dF, lM] at *; omega)
    have hok : RunOk c s fuel := ⟨hbad, hval, hfound, hf, hsz⟩
    have hm := m0_fit hG hok hck B' hnd' fun k h => (hnm' k).2 h
    have e : msr c (arrR s (checkedP c) c.Arrays.reverse) = m0 c s := by rw [arrR_all hck (List.reverse_perm _)]; rfl
    rw [List.take_length, e]
    have h8 := run_t8 c s G fuel hc hok hck b ba bs r1 r2 r3 r4 gA B' hm Fr w0
    rw [hmb] at h8
    exact AW.prune [2, 3, 4, 5, 8, 9, 10, 11, 12, 15] h8
end Go.Proofs.YtkolalhekgmmdaaGreat
