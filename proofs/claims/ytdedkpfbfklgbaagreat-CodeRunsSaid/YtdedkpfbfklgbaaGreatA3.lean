/- Contracts of the functions, part 3. -/
import Derived.Test.YtdedkpfbfklgbaaGreatA2
import Derived.Test.YtdedkpfbfklgbaaGreatA2
import Derived.Test.YtdedkpfbfklgbaaGreatS2
import Derived.Test.YtdedkpfbfklgbaaGreatS3
import Derived.Test.YtdedkpfbfklgbaaGreatA1
namespace Go.Proofs.YtdedkpfbfklgbaaGreat
open Go.RowKit Go.SX
set_option maxRecDepth 100000
set_option maxHeartbeats 4000000
set_option linter.unusedVariables false
set_option linter.unusedSimpArgs false
def resAH (r1 r2 r3 r4 : Nat) (b : Bool) (n g e : Int) : AH := [.box r1 (.bool b), .box r2 (.int .i64 n), .box r3 (.int .i64 g), .box r4 (.int .i64 e)]
theorem run_panic (r1 r2 r3 r4 : Nat) (b : Bool) (n g e : Int) (x : Int) : TriD Tryz.prog 30 [.ref r1 0, .ref r2 0, .ref r3 0, .ref r4 0] (resAH r1 r2 r3 r4 b n g e)
    (.panicking [{ v := .iface 75 (.int .i64 x), recovered := false }]) (fun u' h => u' = (recMode (.panicking [{ v := .iface 75 (.int .i64 x), recovered := false }])).2 ∧ h = resAH r1 r2 r3 r4 false 0 0 x) := by
  refine TriD.enterR 13 Tryz.func30 rfl rfl rfl rfl rfl rfl rfl rfl rfl fun Fr w0 => ?_
  (refine AL.d (AOp.assert_yes (v := .int .i64 x) rfl (by kernel_rfl) (fun S w => mk_int)) ?_) <;> (refine AL.e ?_) <;> (refine AL.e ?_) <;> (refine AL.e ?_) <;> (refine AL.e ?_) <;> (refine AL.e ?_) <;> (refine AL.nil ?_)
  repeat' (first | refine AW.re 1 1 ?_ | (refine AW.r 2 ?_ <;> refine AL.es 1 ?_ <;> (first | refine AL.sl 0 ?_ | refine AL.sl 1 ?_ | refine AL.sl 2 ?_ | refine AL.sl 3 ?_) <;> (first | refine AL.sl 0 ?_ | refine AL.sl 1 ?_ | refine AL.sl 2 ?_ | refine AL.sl 3 ?_) <;> (first | refine AL.sl 0 ?_ | refine AL.sl 1 ?_ | refine AL.sl 2 ?_ | refine AL.sl 3 ?_) <;> (first | refine AL.sl 0 ?_ | refine AL.sl 1 ?_ | refine AL.sl 2 ?_ | refine AL.sl 3 ?_) <;> refine AL.nil ?_) | refine AW.jt ?_ | refine AW.jf ?_ | refine AW.jj (fun hb => ?_) (fun hb => ?_) | refine AW.go ?_ | fail)
  exact AW.donev rfl ⟨⟨_, rfl⟩, rfl⟩
theorem run_return (r1 r2 r3 r4 : Nat) (b : Bool) (n g e : Int) : TriD Tryz.prog 30 [.ref r1 0, .ref r2 0, .ref r3 0, .ref r4 0] (resAH r1 r2 r3 r4 b n g e)
    .returning (fun u' h => u' = .returning ∧ h = resAH r1 r2 r3 r4 b n g e) := by
  refine TriD.enterR 13 Tryz.func30 rfl rfl rfl rfl rfl rfl rfl rfl rfl fun Fr w0 => ?_
  (refine AL.d (AOp.assert_nil (z := .int .i64 0) (zv := .int .i64 0) rfl (by kernel_rfl) (by kernel_rfl) (fun S w => mk_int)) ?_) <;> (refine AL.e ?_) <;> (refine AL.e ?_) <;> (refine AL.e ?_) <;> (refine AL.e ?_) <;> (refine AL.e ?_) <;> (refine AL.nil ?_)
  repeat' (first | refine AW.re 1 1 ?_ | (refine AW.r 2 ?_ <;> refine AL.es 1 ?_ <;> (first | refine AL.sl 0 ?_ | refine AL.sl 1 ?_ | refine AL.sl 2 ?_ | refine AL.sl 3 ?_) <;> (first | refine AL.sl 0 ?_ | refine AL.sl 1 ?_ | refine AL.sl 2 ?_ | refine AL.sl 3 ?_) <;> (first | refine AL.sl 0 ?_ | refine AL.sl 1 ?_ | refine AL.sl 2 ?_ | refine AL.sl 3 ?_) <;> (first | refine AL.sl 0 ?_ | refine AL.sl 1 ?_ | refine AL.sl 2 ?_ | refine AL.sl 3 ?_) <;> refine AL.nil ?_) | refine AW.jt ?_ | refine AW.jf ?_ | refine AW.jj (fun hb => ?_) (fun hb => ?_) | refine AW.go ?_ | fail)
  exact AW.donev rfl ⟨⟨_, rfl⟩, rfl⟩
end Go.Proofs.YtdedkpfbfklgbaaGreat
namespace Go.Proofs.YtdedkpfbfklgbaaGreat
open Go.RowKit Go.SX
set_option maxRecDepth 100000
set_option maxHeartbeats 4000000
set_option linter.unusedVariables false
set_option linter.unusedSimpArgs false
def tabGo (n : Int) : List (List Int) → List Bool → List Bool
  | [], xs => xs
  | t :: ts, xs => tabGo n ts (xs.set (rankR n t).1.toNat true)
def tableR (s : GStr) (k : ByteArray) (ar : Int) : List Bool :=
  match s.Rels[(findI s k ar).toNat]? with
  | some r => tabGo s.Size r.Tuples (List.replicate (powerR s.Size r.Arity).1.toNat false)
  | none => []
def initR (s : GStr) (st : Chk) (k : ByteArray) : List Bool :=
  match lookA st.A k with
  | some a => List.replicate (powerR s.Size a).1.toNat false
  | none => match lookA st.S k with
    | some a => tableR s k a
    | none => []
def m0 (c : GCode) (s : GStr) : MS := ⟨List.replicate c.Flags.toNat false, List.replicate c.Regs.toNat 0, initR s (checkedP c), 0, 0⟩
structure RunOk (c : GCode) (s : GStr) (fuel : Int) : Prop where
  bad : (checkedP c).bad = false
  valid : validStr s = true
  found : ∀ p ∈ (checkedP c).S, 0 ≤ findI s p.1 p.2
  fuel : 0 ≤ fuel ∧ fuel ≤ 10000000
  size : ∀ a ∈ c.Arrays, (powerR s.Size a.Arity).2 = 0
inductive RunR (c : GCode) (s : GStr) (G : List Bool) (fuel : Int) : Bool → Int → Int → Int → Prop
  | form (h : (checkedP c).bad = true ∨ validStr s = false) : RunR c s G fuel false 0 0 1
  | name (h1 : (checkedP c).bad = false) (h2 : validStr s = true) (p : ByteArray × Int) (hp : p ∈ (checkedP c).S) (h : findI s p.1 p.2 < 0) : RunR c s G fuel false 0 0 4
  | arg (h1 : (checkedP c).bad = false) (h2 : validStr s = true) (h3 : ∀ p ∈ (checkedP c).S, 0 ≤ findI s p.1 p.2) (h : fuel < 0 ∨ fuel > 10000000) : RunR c s G fuel false 0 0 2
  | size (h1 : (checkedP c).bad = false) (h2 : validStr s = true) (h3 : ∀ p ∈ (checkedP c).S, 0 ≤ findI s p.1 p.2) (h4 : 0 ≤ fuel ∧ fuel ≤ 10000000) (a : GSym) (ha : a ∈ c.Arrays) (h : (powerR s.Size a.Arity).2 ≠ 0) : RunR c s G fuel false 0 0 5
  | ok (h : RunOk c s fuel) {m : MS} (hx : Ex ⟨s.Size, G, fuel⟩ (.l c.Body) (m0 c s) none m) : RunR c s G fuel (flagAt m.flags 0) m.steps m.used 0
  | stop (h : RunOk c s fuel) {e : Int} {m : MS} (hx : Ex ⟨s.Size, G, fuel⟩ (.l c.Body) (m0 c s) (some e) m) : RunR c s G fuel false 0 0 e
structure ChkOk (c : GCode) : Prop where
  flags : 1 ≤ c.Flags ∧ c.Flags ≤ 1000
  regs : 0 ≤ c.Regs ∧ c.Regs ≤ 60
  keys : ((checkedP c).S.map (·.1)).Nodup
  arrs : (c.Arrays.map (·.Name)).Nodup
  apart : ∀ a ∈ c.Arrays, a.Name ∉ (checkedP c).S.map (·.1)
  look : ∀ a ∈ c.Arrays, lookA (checkedP c).A a.Name = some a.Arity
  only : ∀ k n, lookA (checkedP c).A k = some n → ∃ a ∈ c.Arrays, a.Name = k ∧ a.Arity = n
  ar : ∀ a ∈ c.Arrays, 0 ≤ a.Arity ∧ a.Arity ≤ 12
  sar : ∀ p ∈ (checkedP c).S, 0 ≤ p.2 ∧ p.2 ≤ 12
  body : ∀ x ∈ c.Body, SFit c.Flags.toNat c.Regs.toNat (fun k => match lookA (checkedP c).A k with | some a => some a.toNat | none => (lookA (checkedP c).S k).map Int.toNat) x
end Go.Proofs.YtdedkpfbfklgbaaGreat
namespace Go.Proofs.YtdedkpfbfklgbaaGreat
open Go.RowKit Go.SX
set_option maxRecDepth 100000
set_option maxHeartbeats 4000000
set_option linter.unusedVariables false
set_option linter.unusedSimpArgs false
def Inv (st : Chk) : Prop := (st.S.map (·.1)).Nodup ∧ (∀ k ∈ st.S.map (·.1), lookA st.A k = none) ∧ (st.bad = false → ∀ p ∈ st.S, 0 ≤ p.2 ∧ p.2 ≤ 12)
structure Ext (a b : Chk) : Prop where
  c : b.c = a.c
  A : b.A = a.A
  bad : b.bad = false → a.bad = false
  inv : Inv a → Inv b
  look : b.bad = false → ∀ k n, lookA a.S k = some n → lookA b.S k = some n
theorem Ext.refl (a : Chk) : Ext a a := ⟨rfl, rfl, id, id, fun _ _ _ h => h⟩
theorem Ext.trans {a b c : Chk} (h : Ext a b) (k : Ext b c) : Ext a c := ⟨k.c.trans h.c, k.A.trans h.A, fun e => h.bad (k.bad e), fun e => k.inv (h.inv e), fun e x n hx => k.look e x n (h.look (k.bad e) x n hx)⟩
theorem ext_need (st : Chk) (x : Bool) : Ext st (st.need x) := ⟨rfl, rfl, fun h => by simp [Chk.need] at h; exact h.1, fun ⟨h1, h2, h3⟩ => ⟨h1, h2, fun h => h3 (by simp [Chk.need] at h; exact h.1)⟩, fun _ _ _ h => h⟩
theorem need_ok {st : Chk} {x : Bool} (h : (st.need x).bad = false) : x = true := by simp [Chk.need] at h; exact h.2
theorem ext_flag (st : Chk) (f : Int) : Ext st (st.flag f) := ext_need _ _
theorem ext_regs : ∀ (l : List Int) (st : Chk), Ext st (st.regs l)
  | [], st => Ext.refl st
  | r :: l, st => (ext_need st _).trans (ext_regs l _)
theorem regs_ok : ∀ (l : List Int) (st : Chk), (st.regs l).bad = false → ∀ x ∈ l, 0 ≤ x ∧ x < st.c.Regs
  | [], st, _, x, h => by cases h
  | r :: l, st, hb, x, h => by
    rw [Chk.regs] at hb
    have h1 := need_ok ((ext_regs l _).bad hb)
    simp only [Bool.and_eq_true, decide_eq_true_eq] at h1
    rcases List.mem_cons.1 h with rfl | h
    · exact h1
    · exact regs_ok l _ hb x h
theorem keys_setA {A : List (ByteArray × Int)} {k : ByteArray} {v : Int} : ∀ x, x ∈ (setA A k v).map (·.1) ↔ x = k ∨ x ∈ A.map (·.1) := by
  induction A with
  | nil => intro x; simp [setA]
  | cons p A ih =>
    obtain ⟨k', w⟩ := p
    intro x
    rw [setA]
    by_cases h : k = k'
    · subst h; simp
    · rw [if_neg h]
      simp only [List.map_cons, List.mem_cons, ih]
      constructor
      · rintro (h | h | h) <;> simp [h]
      · rintro (h | h | h) <;> simp [h]
theorem nodup_setA {A : List (ByteArray × Int)} {k : ByteArray} {v : Int} (h : (A.map (·.1)).Nodup) : ((setA A k v).map (·.1)).Nodup := by
  induction A with
  | nil => simp [setA]
  | cons p A ih =>
    obtain ⟨k', w⟩ := p
    simp only [List.map_cons, List.nodup_cons] at h
    rw [setA]
    by_cases e : k = k'
    · subst e; simpa using h
    · rw [if_neg e]
      simp only [List.map_cons, List.nodup_cons]
      refine ⟨fun hm => ?_, ih h.2⟩
      rcases (keys_setA _).1 hm with h1 | h1
      · exact e h1.symm
      · exact h.1 h1
theorem mem_setA {A : List (ByteArray × Int)} {k : ByteArray} {v : Int} : ∀ p ∈ setA A k v, p = (k, v) ∨ p ∈ A := by
  induction A with
  | nil => intro p h; simpa [setA] using h
  | cons q A ih =>
    obtain ⟨k', w⟩ := q
    intro p h
    rw [setA] at h
    by_cases e : k = k'
    · rw [if_pos e] at h
      rcases List.mem_cons.1 h with h | h
      · exact .inl h
      · exact .inr (List.mem_cons_of_mem _ h)
    · rw [if_neg e] at h
      rcases List.mem_cons.1 h with h | h
      · exact .inr (by simp [h])
      · rcases ih p h with h | h
        · exact .inl h
        · exact .inr (List.mem_cons_of_mem _ h)
theorem look_setA {A : List (ByteArray × Int)} {k : ByteArray} {v : Int} (x : ByteArray) : lookA (setA A k v) x = if x = k then some v else lookA A x := by
  induction A with
  | nil => simp only [setA, lookA]
  | cons q A ih =>
    obtain ⟨k', w⟩ := q
    rw [setA]
    by_cases e : k = k'
    · subst e
      simp only [if_pos, lookA]
      by_cases h : x = k <;> simp [h]
    · rw [if_neg e]
      simp only [lookA, ih]
      by_cases h : x = k
      · subst h; simp [e]
      · simp [h]
def sigS (A S : List (ByteArray × Int)) (k : ByteArray) : Option Nat := match lookA A k with | some a => some a.toNat | none => (lookA S k).map Int.toNat
theorem lit_ext (st : Chk) (l : GLit) : Ext st (st.lit l) := by
  unfold Chk.lit
  simp only
  split
  · exact (ext_regs _ _).trans (ext_need _ _)
  · have h1 := (ext_regs l.At st).trans (ext_need (st.regs l.At) (decide (l.Kind = 0) && nameB l.Name && decide (l.At.length ≤ 12)))
    generalize hs2 : (st.regs l.At).need (decide (l.Kind = 0) && nameB l.Name && decide (l.At.length ≤ 12)) = s2 at h1 ⊢
    split
    · exact h1.trans (ext_need _ _)
    · rename_i hA
      have h2 := h1.trans (ext_need s2 (match lookA s2.S l.Name with | none => true | some n => decide (n = l.At.length)))
      refine ⟨h2.c, h2.A, h2.bad, fun hi => ?_, fun hb k n hk => ?_⟩
      · obtain ⟨g1, g2, g3⟩ := h2.inv hi
        refine ⟨nodup_setA g1, fun k hk => ?_, fun hb p hp => ?_⟩
        · rcases (keys_setA _).1 hk with h | h
          · subst h; exact hA
          · exact g2 k h
        · rcases mem_setA p hp with h | h
          · subst h
            have h3 : s2.bad = false := (ext_need s2 _).bad hb
            rw [← hs2] at h3
            have h4 := need_ok h3
            simp only [Bool.and_eq_true, decide_eq_true_eq] at h4
            exact ⟨by show (0 : Int) ≤ (l.At.length : Int); omega, by show (l.At.length : Int) ≤ 12; omega⟩
          · exact g3 hb p h
      · have h3 := h2.look hb k n hk
        show lookA (setA _ _ _) k = _
        rw [look_setA]
        by_cases e : k = l.Name
        · rw [if_pos e]
          subst e
          have h4 := need_ok hb
          have h5 : lookA s2.S l.Name = some n := h3
          rw [h5] at h4
          simp only [decide_eq_true_eq] at h4
          rw [h4]
        · rw [if_neg e]; exact h3
theorem lit_ok (st : Chk) (l : GLit) (hb : (st.lit l).bad = false) : (∀ x ∈ l.At, 0 ≤ x ∧ x < st.c.Regs) ∧ (if l.Kind = 1 ∨ l.Kind = 2 then l.At.length = 2 else l.Kind = 0 ∧ sigS (st.lit l).A (st.lit l).S l.Name = some l.At.length) := by
  unfold Chk.lit at hb ⊢
  simp only at hb ⊢
  by_cases hk : l.Kind = 1 ∨ l.Kind = 2
  · simp only [if_pos hk] at hb ⊢
    have h1 := need_ok hb
    simp only [Bool.and_eq_true, decide_eq_true_eq] at h1
    exact ⟨regs_ok _ _ ((ext_need _ _).bad hb), h1.2⟩
  · simp only [if_neg hk] at hb ⊢
    generalize hs2 : (st.regs l.At).need (decide (l.Kind = 0) && nameB l.Name && decide (l.At.length ≤ 12)) = s2 at hb ⊢
    have key : s2.bad = false → (∀ x ∈ l.At, 0 ≤ x ∧ x < st.c.Regs) ∧ l.Kind = 0 := by
      intro h
      rw [← hs2] at h
      have h4 := need_ok h
      simp only [Bool.and_eq_true, decide_eq_true_eq] at h4
      exact ⟨regs_ok _ _ ((ext_need _ _).bad h), h4.1.1⟩
    cases hA : lookA s2.A l.Name with
    | some n =>
      rw [hA] at hb
      simp only at hb ⊢
      have h1 := need_ok hb
      simp only [decide_eq_true_eq] at h1
      have h2 := key ((ext_need _ _).bad hb)
      refine ⟨h2.1, h2.2, ?_⟩
      have : lookA (s2.need (decide (n = ↑l.At.length))).A l.Name = some n := hA
      rw [sigS, this, h1]; rfl
    | none =>
      rw [hA] at hb
      simp only at hb ⊢
      have h2 := key ((ext_need s2 _).bad hb)
      refine ⟨h2.1, h2.2, ?_⟩
      show (match lookA s2.A l.Name with | some a => some a.toNat | none => (lookA (setA s2.S l.Name l.At.length) l.Name).map Int.toNat) = _
      rw [hA]
      simp only
      rw [look_setA, if_pos rfl]; rfl
theorem ext_ite {a b : Chk} (c : Prop) [Decidable c] {d : Chk} (h1 : Ext a b) (h2 : Ext a d) : Ext a (if c then b else d) := by split <;> assumption
theorem use_name {k : Int} (hk : 0 ≤ k ∧ k < 15) (h : (useOf k).regs = true ∨ (useOf k).frm = true) : (useOf k).name = true := by
  have : k = 0 ∨ k = 1 ∨ k = 2 ∨ k = 3 ∨ k = 4 ∨ k = 5 ∨ k = 6 ∨ k = 7 ∨ k = 8 ∨ k = 9 ∨ k = 10 ∨ k = 11 ∨ k = 12 ∨ k = 13 ∨ k = 14 := by omega
  rcases this with rfl | rfl | rfl | rfl | rfl | rfl | rfl | rfl | rfl | rfl | rfl | rfl | rfl | rfl | rfl <;> first | rfl | (rcases h with h | h <;> cases h)
theorem flds_ok (st : Chk) (s : GStmt) : Ext st (st.flds s) ∧ ((st.flds s).bad = false → 0 ≤ s.Kind ∧ s.Kind < 15 → Fit st.c.Flags.toNat st.c.Regs.toNat (sigS (st.flds s).A (st.flds s).S) s) := by
  unfold Chk.flds
  simp only
  obtain ⟨u, hu⟩ : ∃ u, u = useOf s.Kind := ⟨_, rfl⟩
  rw [← hu]
  obtain ⟨a1, e1⟩ : ∃ x, x = st.need (zeroB s) := ⟨_, rfl⟩
  rw [← e1]
  obtain ⟨a2, e2⟩ : ∃ x, x = (if u.f = true then a1.flag s.F else a1) := ⟨_, rfl⟩
  rw [← e2]
  obtain ⟨a3, e3⟩ : ∃ x, x = (if (u.g && decide (s.Kind ≠ 4)) = true then a2.flag s.G else a2) := ⟨_, rfl⟩
  rw [← e3]
  obtain ⟨a4, e4⟩ : ∃ x, x = (if s.Kind = 4 then a3.need (decide (s.G = 0) || decide (s.G = 1)) else a3) := ⟨_, rfl⟩
  rw [← e4]
  obtain ⟨a5, e5⟩ : ∃ x, x = (if u.r = true then a4.regs [s.R] else a4) := ⟨_, rfl⟩
  rw [← e5]
  obtain ⟨a6, e6⟩ : ∃ x, x = (a5.need (decide (0 ≤ s.N) && decide (s.N ≤ 12))) := ⟨_, rfl⟩
  rw [← e6]
  obtain ⟨a7, e7⟩ : ∃ x, x = (if u.lit = true then a6.lit s.Lit else a6) := ⟨_, rfl⟩
  rw [← e7]
  obtain ⟨a8, e8⟩ : ∃ x, x = (a7.regs s.Regs) := ⟨_, rfl⟩
  rw [← e8]
  obtain ⟨a9, e9⟩ : ∃ x, x = a8.need (!u.name || (lookA a8.A s.Name).isSome) := ⟨_, rfl⟩
  rw [← e9]
  obtain ⟨a10, e10⟩ : ∃ x, x = a9.need (!u.regs || decide ((lookA a8.A s.Name).getD 0 = s.Regs.length)) := ⟨_, rfl⟩
  rw [← e10]
  obtain ⟨a11, e11⟩ : ∃ x, x = (if u.frm = true then a10.need ((lookA a10.A s.From).isSome && decide ((lookA a8.A s.Name).getD 0 = (lookA a10.A s.From).getD 0)) else a10) := ⟨_, rfl⟩
  rw [← e11]
  have x1 : Ext st a1 := by rw [e1]; exact ext_need _ _
  have x2 : Ext a1 a2 := by rw [e2]; exact ext_ite _ (ext_flag _ _) (Ext.refl _)
  have x3 : Ext a2 a3 := by rw [e3]; exact ext_ite _ (ext_flag _ _) (Ext.refl _)
  have x4 : Ext a3 a4 := by rw [e4]; exact ext_ite _ (ext_need _ _) (Ext.refl _)
  have x5 : Ext a4 a5 := by rw [e5]; exact ext_ite _ (ext_regs _ _) (Ext.refl _)
  have x6 : Ext a5 a6 := by rw [e6]; exact ext_need _ _
  have x7 : Ext a6 a7 := by rw [e7]; exact ext_ite _ (lit_ext _ _) (Ext.refl _)
  have x8 : Ext a7 a8 := by rw [e8]; exact ext_regs _ _
  have x9 : Ext a8 a9 := by rw [e9]; exact ext_need _ _
  have x10 : Ext a9 a10 := by rw [e10]; exact ext_need _ _
  have x11 : Ext a10 a11 := by rw [e11]; exact ext_ite _ (ext_need _ _) (Ext.refl _)
  have y2 := x1.trans x2
  have y3 := y2.trans x3
  have y4 := y3.trans x4
  have y5 := y4.trans x5
  have y6 := y5.trans x6
  have y7 := y6.trans x7
  have y8 := y7.trans x8
  have y9 := y8.trans x9
  have y10 := y9.trans x10
  refine ⟨y10.trans x11, fun hb hk => ?_⟩
  have b10 := x11.bad hb
  have b9 := x10.bad b10
  have b8 := x9.bad b9
  have b7 := x8.bad b8
  have b6 := x7.bad b7
  have b5 := x6.bad b6
  have b4 := x5.bad b5
  have b3 := x4.bad b4
  have b2 := x3.bad b3
  have b1 := x2.bad b2
  have cF : ∀ {a : Chk}, a.c = st.c → a.c.Flags = st.c.Flags := fun h => by rw [h]
  have cR : ∀ {a : Chk}, a.c = st.c → a.c.Regs = st.c.Regs := fun h => by rw [h]
  have hA8 : a11.A = a8.A := by rw [x11.A, x10.A, x9.A]
  have hA10 : a11.A = a10.A := x11.A
  rw [hu] at e2 e3 e5 e7 e9 e10 e11
  exact {
    kind := hk
    f := fun h => by
      rw [if_pos h] at e2
      rw [e2] at b2
      have := need_ok b2
      simp only [Bool.and_eq_true, decide_eq_true_eq] at this
      rw [cF x1.c] at this; omega
    g := fun h h4 => by
      rw [if_pos (by simp [h, h4])] at e3
      rw [e3] at b3
      have := need_ok b3
      simp only [Bool.and_eq_true, decide_eq_true_eq] at this
      rw [cF y2.c] at this; omega
    r := fun h => by
      rw [if_pos h] at e5
      rw [e5] at b5
      have := regs_ok _ _ b5 s.R (by simp)
      rw [cR y4.c] at this; omega
    n := by
      rw [e6] at b6
      have := need_ok b6
      simpa using this
    name := fun h => by
      rw [e9] at b9
      have := need_ok b9
      rw [h] at this
      simp only [Bool.not_true, Bool.false_or, Option.isSome_iff_exists] at this
      obtain ⟨n, hn⟩ := this
      exact ⟨n.toNat, by rw [sigS, hA8, hn]⟩
    store := fun h => by
      have hn : (useOf s.Kind).name = true := by
        exact use_name hk (.inl h)
      rw [e9] at b9
      rw [e10] at b10
      have h1 := need_ok b9
      have h2 := need_ok b10
      rw [hn] at h1
      rw [h] at h2
      simp only [Bool.not_true, Bool.false_or, Option.isSome_iff_exists, decide_eq_true_eq] at h1 h2
      obtain ⟨n, hn⟩ := h1
      rw [hn] at h2
      simp only [Option.getD_some] at h2
      rw [sigS, hA8, hn, h2]; rfl
    regs := fun x hx => by
      rw [e8] at b8
      have := regs_ok _ _ b8 x hx
      rw [cR y7.c] at this; omega
    frm := fun h => by
      have hn : (useOf s.Kind).name = true := by
        exact use_name hk (.inr h)
      rw [if_pos h] at e11
      rw [e11] at hb
      rw [e9] at b9
      have h1 := need_ok b9
      have h2 := need_ok hb
      rw [hn] at h1
      simp only [Bool.not_true, Bool.false_or, Option.isSome_iff_exists, decide_eq_true_eq, Bool.and_eq_true] at h1 h2
      obtain ⟨n, hn⟩ := h1
      obtain ⟨⟨m, hm⟩, h3⟩ := h2
      rw [hn, hm] at h3
      simp only [Option.getD_some] at h3
      subst h3
      rw [sigS, sigS]
      have k1 : lookA a11.A s.From = some n := by rw [hA10]; exact hm
      have k2 : lookA a11.A s.Name = some n := by rw [hA8]; exact hn
      rw [k1, k2]
    lit := fun h => by
      rw [if_pos h] at e7
      rw [e7] at b7
      obtain ⟨h1, h2⟩ := lit_ok _ _ b7
      rw [cR y6.c] at h1
      refine ⟨fun x hx => by have := h1 x hx; omega, ?_⟩
      split
      · rename_i hk; rw [if_pos hk] at h2; exact h2
      · rename_i hk
        rw [if_neg hk] at h2
        refine ⟨h2.1, ?_⟩
        have x711 := (((x8.trans x9).trans x10).trans x11)
        rw [← e7] at h2
        have h3 := h2.2
        rw [sigS] at h3 ⊢
        rw [x711.A]
        cases hA : lookA a7.A s.Lit.Name with
        | some n => rw [hA] at h3; exact h3
        | none =>
          rw [hA] at h3
          simp only at h3 ⊢
          cases hS : lookA a7.S s.Lit.Name with
          | none => rw [hS] at h3; cases h3
          | some n =>
            rw [hS] at h3
            rw [x711.look hb _ _ hS]
            exact h3 }
end Go.Proofs.YtdedkpfbfklgbaaGreat
namespace Go.Proofs.YtdedkpfbfklgbaaGreat
open Go.RowKit Go.SX
set_option maxRecDepth 100000
set_option maxHeartbeats 4000000
set_option linter.unusedVariables false
set_option linter.unusedSimpArgs false
mutual
def depS : GStmt → Nat
  | ⟨_, _, _, _, _, _, _, _, _, body, els⟩ => 1 + max (depL body) (depL els)
def depL : List GStmt → Nat
  | [] => 0
  | s :: l => max (depS s) (depL l)
end
mutual
def allS (p : GStmt → Bool) : GStmt → Bool
  | ⟨k, f, g, r, n, nm, fr, lit, regs, body, els⟩ => p ⟨k, f, g, r, n, nm, fr, lit, regs, body, els⟩ && allL p body && allL p els
def allL (p : GStmt → Bool) : List GStmt → Bool
  | [] => true
  | s :: l => allS p s && allL p l
end
def ownT (A : Ar) (s : GStmt) : List GSym := if s.Kind = 0 ∧ s.Lit.Kind = 0 ∧ A s.Lit.Name = none then [⟨s.Lit.Name, s.Lit.At.length⟩] else []
mutual
def testsS (A : Ar) : GStmt → List GSym → List GSym
  | ⟨k, f, g, r, n, nm, fr, lit, regs, body, els⟩, out => testsL A els (testsL A body (out ++ ownT A ⟨k, f, g, r, n, nm, fr, lit, regs, body, els⟩))
def testsL (A : Ar) : List GStmt → List GSym → List GSym
  | [], out => out
  | s :: l, out => testsL A l (testsS A s out)
end
def consT (l : List GSym) : Bool := l.all fun a => decide (arOf l a.Name = some a.Arity)
def arrB (pre : List GSym) : List GSym → Bool
  | [] => true
  | a :: l => nameB a.Name && inr 13 a.Arity && !(arOf pre a.Name).isSome && arrB (pre ++ [a]) l
def refValid (c : GCode) : Bool :=
  (decide (1 ≤ c.Flags) && decide (c.Flags ≤ 1000) && decide (0 ≤ c.Regs) && decide (c.Regs ≤ 60) && decide (c.Arrays.length ≤ 60)) && arrB [] c.Arrays && (decide (cntL c.Body ≤ 20000) && decide (depL c.Body ≤ 60) && allL (refS (arOf c.Arrays) c.Flags c.Regs) c.Body) && consT (testsL (arOf c.Arrays) c.Body [])
theorem arOf_append (l m : List GSym) (k : ByteArray) : arOf (l ++ m) k = match arOf l k with | some n => some n | none => arOf m k := by
  unfold arOf
  rw [List.find?_append]
  cases h : l.find? fun a => decide (a.Name = k) <;> rfl
theorem arOf_one (a : GSym) (k : ByteArray) : arOf [a] k = if a.Name = k then some a.Arity else none := by
  unfold arOf
  by_cases h : a.Name = k
  · simp [h]
  · simp [h]
theorem consT_mono (l m : List GSym) (h : consT (l ++ m) = true) : consT l = true := by
  unfold consT at *
  rw [List.all_eq_true] at *
  intro a ha
  have h1 := of_decide_eq_true (h a (List.mem_append_left _ ha))
  rw [arOf_append] at h1
  rw [decide_eq_true_eq]
  cases h2 : arOf l a.Name with
  | some n => rw [h2] at h1; exact h1
  | none =>
    exfalso
    unfold arOf at h2
    rw [Option.map_eq_none_iff, List.find?_eq_none] at h2
    exact h2 a ha (by simp)
theorem consT_snoc (l : List GSym) (a : GSym) (h : consT l = true) : consT (l ++ [a]) = (match arOf l a.Name with | some n => decide (n = a.Arity) | none => true) := by
  unfold consT at *
  rw [List.all_append]
  have e1 : (l.all fun x => decide (arOf (l ++ [a]) x.Name = some x.Arity)) = true := by
    rw [List.all_eq_true] at *
    intro x hx
    have := of_decide_eq_true (h x hx)
    rw [decide_eq_true_eq, arOf_append, this]
  rw [e1, Bool.true_and]
  simp only [List.all_cons, List.all_nil, Bool.and_true]
  rw [arOf_append, arOf_one, if_pos rfl]
  cases arOf l a.Name <;> simp
mutual
theorem testsS_ext (A : Ar) : ∀ (s : GStmt) (out : List GSym), ∃ m, testsS A s out = out ++ m
  | ⟨k, f, g, r, n, nm, fr, lit, regs, body, els⟩, out => by
    rw [testsS]
    obtain ⟨m1, h1⟩ := testsL_ext A body (out ++ ownT A ⟨k, f, g, r, n, nm, fr, lit, regs, body, els⟩)
    obtain ⟨m2, h2⟩ := testsL_ext A els (testsL A body (out ++ ownT A ⟨k, f, g, r, n, nm, fr, lit, regs, body, els⟩))
    exact ⟨ownT A ⟨k, f, g, r, n, nm, fr, lit, regs, body, els⟩ ++ (m1 ++ m2), by rw [h2, h1]; simp⟩
theorem testsL_ext (A : Ar) : ∀ (l : List GStmt) (out : List GSym), ∃ m, testsL A l out = out ++ m
  | [], out => ⟨[], by simp [testsL]⟩
  | s :: l, out => by
    rw [testsL]
    obtain ⟨m1, h1⟩ := testsS_ext A s out
    obtain ⟨m2, h2⟩ := testsL_ext A l (testsS A s out)
    exact ⟨m1 ++ m2, by rw [h2, h1]; simp⟩
end
theorem testsL_false (A : Ar) (l : List GStmt) (out : List GSym) (h : consT (testsL A l out) = true) : consT out = true := by
  obtain ⟨m, e⟩ := testsL_ext A l out; rw [e] at h; exact consT_mono _ _ h
def RS (S : List (ByteArray × Int)) (out : List GSym) : Prop := ∀ k, lookA S k = arOf out k
theorem own_step (A : Ar) (fl rg : Int) (s : GStmt) (S : List (ByteArray × Int)) (out : List GSym) (hf : fldB A fl rg s = true) (hR : RS S out) (ho : consT out = true) :
    symOk S (stSym A s) = consT (out ++ ownT A s) ∧ (symOk S (stSym A s) = true → RS (addSym S (stSym A s)) (out ++ ownT A s)) := by
  have hno : stSym A s = none → ownT A s = [] → symOk S (stSym A s) = consT (out ++ ownT A s) ∧ (symOk S (stSym A s) = true → RS (addSym S (stSym A s)) (out ++ ownT A s)) := by
    intro h1 h2
    rw [h1, h2, List.append_nil, ho]
    exact ⟨rfl, fun _ => hR⟩
  by_cases hk : s.Kind = 0
  · have hl : litB A rg s.Lit = true := by
      rw [fld_0 A fl rg s hk] at hf
      simp only [Bool.and_eq_true] at hf
      exact hf.2
    by_cases hl2 : s.Lit.Kind = 1 ∨ s.Lit.Kind = 2
    · refine hno (by simp [stSym, hk, litSym, hl2]) ?_
      unfold ownT
      rw [if_neg]
      rintro ⟨-, h, -⟩
      omega
    · have hl0 : s.Lit.Kind = 0 := by
        unfold litB at hl
        rw [if_neg hl2] at hl
        simp only [Bool.and_eq_true, decide_eq_true_eq] at hl
        exact hl.2.1.1.1
      cases hA : A s.Lit.Name with
      | some n =>
        refine hno (by simp [stSym, hk, litSym, hl2, hA]) ?_
        unfold ownT
        rw [if_neg]
        rintro ⟨-, -, h⟩
        rw [hA] at h; cases h
      | none =>
        have e1 : stSym A s = some (s.Lit.Name, (s.Lit.At.length : Int)) := by simp [stSym, hk, litSym, hl2, hA]
        have e2 : ownT A s = [⟨s.Lit.Name, s.Lit.At.length⟩] := by unfold ownT; rw [if_pos ⟨hk, hl0, hA⟩]
        rw [e1, e2, consT_snoc _ _ ho]
        refine ⟨?_, ?_⟩
        · show (match lookA S s.Lit.Name with | none => true | some m => decide (m = (s.Lit.At.length : Int))) = _
          rw [hR]
          cases arOf out s.Lit.Name <;> rfl
        · intro h k
          show lookA (setA S s.Lit.Name s.Lit.At.length) k = _
          rw [look_setA, arOf_append, arOf_one]
          by_cases hkk : k = s.Lit.Name
          · subst hkk
            rw [if_pos rfl, if_pos rfl]
            have h' : (match lookA S s.Lit.Name with | none => true | some m => decide (m = (s.Lit.At.length : Int))) = true := h
            rw [hR] at h'
            cases ha : arOf out s.Lit.Name with
            | none => rfl
            | some m => rw [ha] at h'; rw [show m = (s.Lit.At.length : Int) from of_decide_eq_true h']
          · rw [if_neg hkk, if_neg (fun e => hkk e.symm), hR]
            cases arOf out k <;> rfl
  · exact hno (by simp [stSym, hk]) (by unfold ownT; rw [if_neg]; rintro ⟨h, -⟩; exact hk h)
theorem stmtP_bad (s : GStmt) (L : Int) (st : Chk) (h : st.bad = true) : (stmtP s L st).bad = true := by
  have h1 : (st.enter s L).bad = true := by show (st.bad || _) = true; rw [h]; rfl
  rw [stmtP_eq]
  simp only [h1, if_true]
theorem listP_bad : ∀ (l : List GStmt) (L : Int) (st : Chk), st.bad = true → (listP l L st).1.bad = true
  | [], L, st, h => h
  | s :: l, L, st, h => by
    rw [listP]
    simp only [stmtP_bad s L st h, if_true]
structure SOut (st st' : Chk) (n : Nat) (out : List GSym) : Prop where
  c : st'.c = st.c
  A : st'.A = st.A
  cnt : st'.cnt = st.cnt + n
  R : RS st'.S out
mutual
theorem stmtP_iff : ∀ (s : GStmt) (L : Int) (st : Chk) (out : List GSym), st.bad = false → RS st.S out → consT out = true →
    ((stmtP s L st).bad = false ↔ (allS (refS (lookA st.A) st.c.Flags st.c.Regs) s = true ∧ L - 1 + depS s ≤ 60 ∧ consT (testsS (lookA st.A) s out) = true ∧ st.cnt + cntS s ≤ 20000)) ∧
    ((stmtP s L st).bad = false → SOut st (stmtP s L st) (cntS s) (testsS (lookA st.A) s out))
  | ⟨k, f, g, r, n, nm, fr, lit, regs, body, els⟩, L, st, out, hb, hR, ho => by
    rw [stmtP_eq, allS, testsS, cntS, depS]
    generalize hs : (⟨k, f, g, r, n, nm, fr, lit, regs, body, els⟩ : GStmt) = s
    have hk : s.Kind = k := by rw [← hs]
    have hbody : s.Body = body := by rw [← hs]
    have hels : s.Else = els := by rw [← hs]
    rw [hbody, hels]
    clear hs
    simp only
    have e1b : (st.enter s L).bad = (st.bad || !(decide (0 ≤ s.Kind) && decide (s.Kind < 15) && decide (st.cnt + 1 ≤ 20000) && decide (L ≤ 60))) := rfl
    have e1c : (st.enter s L).c = st.c := rfl
    have e1A : (st.enter s L).A = st.A := rfl
    have e1S : (st.enter s L).S = st.S := rfl
    have e1n : (st.enter s L).cnt = st.cnt + 1 := rfl
    generalize st.enter s L = s1 at *
    rw [hb, Bool.false_or] at e1b
    by_cases hE : (decide (0 ≤ s.Kind) && decide (s.Kind < 15) && decide (st.cnt + 1 ≤ 20000) && decide (L ≤ 60)) = true
    · have hs1 : s1.bad = false := by rw [e1b, hE]; rfl
      simp only [Bool.and_eq_true, decide_eq_true_eq] at hE
      obtain ⟨⟨⟨k0, k1⟩, hn⟩, hL⟩ := hE
      have hfl := flds_step s1 s ⟨k0, k1⟩
      rw [e1A, e1S, e1c] at hfl
      have hrefS : refS (lookA st.A) st.c.Flags st.c.Regs s = fldB (lookA st.A) st.c.Flags st.c.Regs s := by
        unfold refS; rw [decide_eq_true k0, decide_eq_true k1]; rfl
      rw [hrefS]
      simp only [hs1, Bool.false_eq_true, if_false]
      have hfb := hfl.bad
      rw [hs1, Bool.false_or] at hfb
      have hcnt2 : (s1.flds s).cnt = st.cnt + 1 := (s1.flds_cnt s).trans e1n
      have hc2 := hfl.c.trans e1c
      have hA2 := hfl.A.trans e1A
      have hS2 := hfl.S
      generalize s1.flds s = s2 at *
      cases hfld : fldB (lookA st.A) st.c.Flags st.c.Regs s with
      | false =>
        rw [hfld, Bool.false_and] at hfb
        have hbb : s2.bad = true := hfb
        have h1 := listP_bad body (L + 1) s2 hbb
        have h2 : (if (listP body (L + 1) s2).2 = true then (listP body (L + 1) s2).1 else (listP els (L + 1) (listP body (L + 1) s2).1).1).bad = true := by
          split
          · exact h1
          · exact listP_bad _ _ _ h1
        rw [h2]
        simp
      | true =>
        have hown := own_step (lookA st.A) st.c.Flags st.c.Regs s st.S out hfld hR ho
        rw [hfld, Bool.true_and] at hfb
        cases hsym : symOk st.S (stSym (lookA st.A) s) with
        | false =>
          rw [hsym] at hfb
          have hbb : s2.bad = true := hfb
          have h1 := listP_bad body (L + 1) s2 hbb
          have h2 : (if (listP body (L + 1) s2).2 = true then (listP body (L + 1) s2).1 else (listP els (L + 1) (listP body (L + 1) s2).1).1).bad = true := by
            split
            · exact h1
            · exact listP_bad _ _ _ h1
          rw [h2]
          refine ⟨⟨(by rintro ⟨⟩), fun h => ?_⟩, (by rintro ⟨⟩)⟩
          have h3 := testsL_false _ _ _ (testsL_false _ _ _ h.2.2.1)
          rw [← hown.1, hsym] at h3
          cases h3
        | true =>
          rw [hsym] at hfb
          have hbb : s2.bad = false := hfb
          have hR2 : RS s2.S (out ++ ownT (lookA st.A) s) := by rw [hS2]; exact hown.2 hsym
          have ho2 : consT (out ++ ownT (lookA st.A) s) = true := by rw [← hown.1, hsym]
          have ih1 := listP_iff body (L + 1) s2 _ hbb hR2 ho2 (by omega) (by omega)
          rw [hA2, hc2, hcnt2] at ih1
          generalize listP body (L + 1) s2 = p at *
          obtain ⟨i1, i2, i3⟩ := ih1
          cases hp : p.1.bad with
          | true =>
            rw [hp] at i1 i2
            have hbad : (if p.2 = true then p.1 else (listP els (L + 1) p.1).1).bad = true := by rw [i1, if_pos rfl]; exact hp
            rw [hbad]
            refine ⟨⟨(by rintro ⟨⟩), fun h => ?_⟩, (by rintro ⟨⟩)⟩
            have h3 : true = false := i2.2 ⟨?_, ?_, testsL_false _ _ _ h.2.2.1, ?_⟩
            · cases h3
            · have := h.1; simp only [Bool.true_and, Bool.and_eq_true] at this; exact this.1
            · have := h.2.1; omega
            · have := h.2.2.2; omega
          | false =>
            rw [hp] at i1
            have i3 := i3 hp
            obtain ⟨b1, b2, b3, b4⟩ := i2.1 hp
            have hif : (if p.2 = true then p.1 else (listP els (L + 1) p.1).1) = (listP els (L + 1) p.1).1 := by rw [i1]; rfl
            rw [hif]
            have ih2 := listP_iff els (L + 1) p.1 _ hp i3.R b3 (by omega) (by rw [i3.cnt, hcnt2]; omega)
            rw [i3.A, i3.c, i3.cnt, hA2, hc2, hcnt2] at ih2
            obtain ⟨j1, j2, j3⟩ := ih2
            refine ⟨?_, fun h => ?_⟩
            · rw [j2]
              constructor
              · rintro ⟨d1, d2, d3, d4⟩
                refine ⟨by rw [b1, d1]; rfl, by omega, d3, by omega⟩
              · rintro ⟨d1, d2, d3, d4⟩
                refine ⟨?_, by omega, d3, by omega⟩
                simp only [Bool.true_and, Bool.and_eq_true] at d1
                exact d1.2
            · have j3 := j3 h
              exact ⟨j3.c.trans (i3.c.trans hc2), j3.A.trans (i3.A.trans hA2), by rw [j3.cnt, i3.cnt, hcnt2]; omega, j3.R⟩
    · have hs1 : s1.bad = true := by rw [e1b, Bool.eq_false_iff.2 hE]; rfl
      simp only [hs1, if_true]
      refine ⟨⟨(by rintro ⟨⟩), fun h => absurd ?_ hE⟩, (by rintro ⟨⟩)⟩
      obtain ⟨d1, d2, d3, d4⟩ := h
      simp only [refS, Bool.and_eq_true, decide_eq_true_eq] at d1 ⊢
      exact ⟨⟨d1.1.1.1, by omega⟩, by omega⟩
theorem listP_iff : ∀ (l : List GStmt) (L : Int) (st : Chk) (out : List GSym), st.bad = false → RS st.S out → consT out = true → L ≤ 61 → st.cnt ≤ 20000 →
    ((listP l L st).2 = (listP l L st).1.bad) ∧
    ((listP l L st).1.bad = false ↔ (allL (refS (lookA st.A) st.c.Flags st.c.Regs) l = true ∧ L - 1 + depL l ≤ 60 ∧ consT (testsL (lookA st.A) l out) = true ∧ st.cnt + cntL l ≤ 20000)) ∧
    ((listP l L st).1.bad = false → SOut st (listP l L st).1 (cntL l) (testsL (lookA st.A) l out))
  | [], L, st, out, hb, hR, ho, hL, hn => by
    rw [listP, allL, depL, testsL, cntL]
    exact ⟨hb.symm, ⟨fun _ => ⟨rfl, by simp; omega, ho, by simp; omega⟩, fun _ => hb⟩, fun _ => ⟨rfl, rfl, by simp, hR⟩⟩
  | s :: l, L, st, out, hb, hR, ho, hL, hn => by
    rw [listP, allL, depL, testsL, cntL]
    try simp only
    have ih1 := stmtP_iff s L st out hb hR ho
    generalize stmtP s L st = s1 at *
    obtain ⟨i2, i3⟩ := ih1
    cases hp : s1.bad with
    | true =>
      simp only [if_true]
      rw [hp] at i2
      refine ⟨hp.symm, ?_, fun h => by rw [hp] at h; cases h⟩
      rw [hp]
      refine ⟨(by rintro ⟨⟩), fun h => ?_⟩
      exact i2.2 ⟨by have := h.1; rw [Bool.and_eq_true] at this; exact this.1, by have := h.2.1; omega, testsL_false _ _ _ h.2.2.1, by have := h.2.2.2; omega⟩
    | false =>
      simp only [Bool.false_eq_true, if_false]
      have i3 := i3 hp
      obtain ⟨b1, b2, b3, b4⟩ := i2.1 hp
      have ih2 := listP_iff l L s1 _ hp i3.R b3 hL (by rw [i3.cnt]; omega)
      rw [i3.A, i3.c, i3.cnt] at ih2
      obtain ⟨j1, j2, j3⟩ := ih2
      refine ⟨j1, ?_, fun h => ?_⟩
      · rw [j2]
        constructor
        · rintro ⟨d1, d2, d3, d4⟩
          exact ⟨by rw [b1, d1]; rfl, by omega, d3, by omega⟩
        · rintro ⟨d1, d2, d3, d4⟩
          rw [b1, Bool.true_and] at d1
          exact ⟨d1, by omega, d3, by omega⟩
      · have j3 := j3 h
        exact ⟨j3.c.trans i3.c, j3.A.trans i3.A, by rw [j3.cnt, i3.cnt]; omega, j3.R⟩
end
theorem bodyP_iff : ∀ (l : List GStmt) (st : Chk) (out : List GSym), st.bad = false → RS st.S out → consT out = true → st.cnt ≤ 20000 →
    ((bodyP l st).bad = false ↔ (allL (refS (lookA st.A) st.c.Flags st.c.Regs) l = true ∧ depL l ≤ 60 ∧ consT (testsL (lookA st.A) l out) = true ∧ st.cnt + cntL l ≤ 20000)) ∧
    ((bodyP l st).bad = false → SOut st (bodyP l st) (cntL l) (testsL (lookA st.A) l out))
  | [], st, out, hb, hR, ho, hn => by
    rw [bodyP, allL, depL, testsL, cntL]
    exact ⟨⟨fun _ => ⟨rfl, by omega, ho, by simp; omega⟩, fun _ => hb⟩, fun _ => ⟨rfl, rfl, by simp, hR⟩⟩
  | s :: l, st, out, hb, hR, ho, hn => by
    rw [bodyP, allL, depL, testsL, cntL]
    simp only [hb, Bool.false_eq_true, if_false]
    have ih1 := stmtP_iff s 1 st out hb hR ho
    generalize stmtP s 1 st = s1 at *
    obtain ⟨i2, i3⟩ := ih1
    cases hp : s1.bad with
    | true =>
      rw [hp] at i2
      have hbb : (bodyP l s1).bad = true := by
        cases l with
        | nil => exact hp
        | cons y l => rw [bodyP, if_pos hp]; exact hp
      rw [hbb]
      refine ⟨⟨(by rintro ⟨⟩), fun h => ?_⟩, (by rintro ⟨⟩)⟩
      exact i2.2 ⟨by have := h.1; rw [Bool.and_eq_true] at this; exact this.1, by have := h.2.1; omega, testsL_false _ _ _ h.2.2.1, by have := h.2.2.2; omega⟩
    | false =>
      have i3 := i3 hp
      obtain ⟨b1, b2, b3, b4⟩ := i2.1 hp
      have ih2 := bodyP_iff l s1 _ hp i3.R b3 (by rw [i3.cnt]; omega)
      rw [i3.A, i3.c, i3.cnt] at ih2
      obtain ⟨j2, j3⟩ := ih2
      refine ⟨?_, fun h => ?_⟩
      · rw [j2]
        constructor
        · rintro ⟨d1, d2, d3, d4⟩
          exact ⟨by rw [b1, d1]; rfl, by omega, d3, by omega⟩
        · rintro ⟨d1, d2, d3, d4⟩
          rw [b1, Bool.true_and] at d1
          exact ⟨d1, by omega, d3, by omega⟩
      · have j3 := j3 h
        exact ⟨j3.c.trans i3.c, j3.A.trans i3.A, by rw [j3.cnt, i3.cnt]; omega, j3.R⟩
theorem arrsP_iff : ∀ (l : List GSym) (st : Chk) (g : MG) (pre : List GSym), (∀ k, lookA st.A k = arOf pre k) →
    ((arrsP l st g).1.bad = false ↔ (st.bad = false ∧ arrB pre l = true)) ∧ ((arrsP l st g).1.bad = false → ∀ k, lookA (arrsP l st g).1.A k = arOf (pre ++ l) k) ∧ (arrsP l st g).1.c = st.c ∧ (arrsP l st g).1.S = st.S
  | [], st, g, pre, hA => by
    rw [arrsP, arrB]
    exact ⟨⟨fun h => ⟨h, rfl⟩, fun h => h.1⟩, fun _ k => by simpa using hA k, rfl, rfl⟩
  | a :: l, st, g, pre, hA => by
    rw [arrsP, arrB]
    have hb1 : (st.arr a).bad = (st.bad || !(!(lookA st.A a.Name).isSome && nameB a.Name && decide (0 ≤ a.Arity) && decide (a.Arity ≤ 12))) := rfl
    have hc1 : (st.arr a).c = st.c := rfl
    have hS1 : (st.arr a).S = st.S := rfl
    have hA1 : (st.arr a).A = setA st.A a.Name a.Arity := rfl
    have hmono : ∀ (l : List GSym) (s : Chk) (g : MG), s.bad = true → (arrsP l s g).1.bad = true := by
      intro l
      induction l with
      | nil => intro s g h; exact h
      | cons x l ih => intro s g h; exact ih _ _ (by show (s.bad || _) = true; rw [h]; rfl)
    have hcs : ∀ (l : List GSym) (s : Chk) (g : MG), (arrsP l s g).1.c = s.c ∧ (arrsP l s g).1.S = s.S := by
      intro l
      induction l with
      | nil => intro s g; exact ⟨rfl, rfl⟩
      | cons x l ih => intro s g; exact ⟨(ih _ _).1, (ih _ _).2⟩
    refine ⟨?_, ?_, (hcs _ _ _).1.trans hc1, (hcs _ _ _).2.trans hS1⟩
    all_goals generalize st.arr a = s1 at *
    all_goals
      cases hp : s1.bad with
      | true =>
        have := hmono l s1 (gsetA st.A g a.Name) hp
        rw [this]
        first
        | (intro h; cases h; done)
        | (refine ⟨(by rintro ⟨⟩), fun h => ?_⟩
           exfalso
           rw [hp, h.1] at hb1
           have h2 := h.2
           rw [hA] at hb1
           simp only [inr, Bool.and_eq_true, decide_eq_true_eq, Bool.not_eq_true'] at h2
           rw [h2.1.2, h2.1.1.1, decide_eq_true h2.1.1.2.1, decide_eq_true (show a.Arity ≤ 12 by omega)] at hb1
           cases hb1)
      | false =>
        rw [hp] at hb1
        have hz := hb1.symm
        rw [Bool.or_eq_false_iff] at hz
        have hz2 : (!(lookA st.A a.Name).isSome && nameB a.Name && decide (0 ≤ a.Arity) && decide (a.Arity ≤ 12)) = true := by simpa using hz.2
        simp only [Bool.and_eq_true, decide_eq_true_eq, Bool.not_eq_true'] at hz2
        obtain ⟨⟨⟨z1, z2⟩, z3⟩, z4⟩ := hz2
        have hnone : arOf pre a.Name = none := by rw [← hA]; simpa using z1
        have hA2 : ∀ k, lookA s1.A k = arOf (pre ++ [a]) k := by
          intro k
          rw [hA1, look_setA, arOf_append, arOf_one, hA]
          by_cases hk : k = a.Name
          · subst hk; rw [if_pos rfl, if_pos rfl, hnone]
          · rw [if_neg hk, if_neg (fun e => hk e.symm)]; cases arOf pre k <;> rfl
        have ih := arrsP_iff l s1 (gsetA st.A g a.Name) (pre ++ [a]) hA2
        rw [hp] at ih
        first
        | (rw [ih.1]
           have e : (nameB a.Name && inr 13 a.Arity && !(arOf pre a.Name).isSome && arrB (pre ++ [a]) l) = arrB (pre ++ [a]) l := by
             rw [z2, hnone]
             simp only [inr]
             rw [decide_eq_true z3, decide_eq_true (show a.Arity < 13 by omega)]; rfl
           rw [e, hz.1])
        | (intro h k; have := ih.2.1 h k; rw [List.append_assoc] at this; exact this)
theorem checked_iff (c : GCode) : (checkedP c).bad = !refValid c := by
  have h0 : (chk0 c).bad = !(decide (1 ≤ c.Flags) && decide (c.Flags ≤ 1000) && decide (0 ≤ c.Regs) && decide (c.Regs ≤ 60) && decide (c.Arrays.length ≤ 60)) := rfl
  have hA := arrsP_iff c.Arrays (chk0 c) ⟨[], 0⟩ [] (fun k => rfl)
  have hcnt := arrsP_cnt c.Arrays (chk0 c) ⟨[], 0⟩
  have hc0 : (chk0 c).c = c := rfl
  have hS0 : (chk0 c).S = [] := rfl
  have hn0 : (chk0 c).cnt = 0 := rfl
  rw [hc0, hS0] at hA
  rw [hn0] at hcnt
  unfold checkedP refValid
  generalize (decide (1 ≤ c.Flags) && decide (c.Flags ≤ 1000) && decide (0 ≤ c.Regs) && decide (c.Regs ≤ 60) && decide (c.Arrays.length ≤ 60)) = h at *
  generalize (arrsP c.Arrays (chk0 c) ⟨[], 0⟩).1 = s1 at *
  obtain ⟨a1, a2, a3, a4⟩ := hA
  cases hp : s1.bad with
  | true =>
    have hbb : (bodyP c.Body s1).bad = true := by
      cases c.Body with
      | nil => exact hp
      | cons y l => rw [bodyP, if_pos hp]; exact hp
    rw [hbb]
    have : (h && arrB [] c.Arrays) = false := by
      rw [Bool.eq_false_iff]
      intro hh
      rw [Bool.and_eq_true] at hh
      have := a1.2 ⟨by rw [h0, hh.1]; rfl, hh.2⟩
      rw [hp] at this; cases this
    rw [this]; rfl
  | false =>
    obtain ⟨b1, b2⟩ := a1.1 hp
    have hh : h = true := by rw [h0] at b1; simpa using b1
    have hAr : lookA s1.A = arOf c.Arrays := funext fun k => by simpa using a2 hp k
    have hB := (bodyP_iff c.Body s1 [] hp (by rw [a4]; intro k; rfl) rfl (by omega)).1
    rw [hAr, a3, hcnt] at hB
    rw [hh, b2, Bool.true_and, Bool.true_and]
    have e : (!(decide (cntL c.Body ≤ 20000) && decide (depL c.Body ≤ 60) && allL (refS (arOf c.Arrays) c.Flags c.Regs) c.Body && consT (testsL (arOf c.Arrays) c.Body []))) = (bodyP c.Body s1).bad := by
      cases hx : (bodyP c.Body s1).bad with
      | false =>
        obtain ⟨d1, d2, d3, d4⟩ := hB.1 hx
        rw [d1, d3, decide_eq_true d2, decide_eq_true (show cntL c.Body ≤ 20000 by omega)]; rfl
      | true =>
        cases hy : (decide (cntL c.Body ≤ 20000) && decide (depL c.Body ≤ 60) && allL (refS (arOf c.Arrays) c.Flags c.Regs) c.Body && consT (testsL (arOf c.Arrays) c.Body [])) with
        | false => rfl
        | true =>
          simp only [Bool.and_eq_true, decide_eq_true_eq] at hy
          have := hB.2 ⟨hy.1.2, hy.1.1.2, hy.2, by omega⟩
          rw [hx] at this; cases this
    rw [← e]
end Go.Proofs.YtdedkpfbfklgbaaGreat
namespace Go.Proofs.YtdedkpfbfklgbaaGreat
open Go.RowKit Go.SX
set_option maxRecDepth 100000
set_option maxHeartbeats 4000000
set_option linter.unusedVariables false
set_option linter.unusedSimpArgs false
theorem okB {s : GStmt} (h : s.Ok) : s.Body.length ≤ 4611686018427387904 ∧ (∀ x ∈ s.Body, x.Ok) ∧ s.Else.length ≤ 4611686018427387904 ∧ (∀ x ∈ s.Else, x.Ok) := by
  obtain ⟨_, h1, h2, h3, h4⟩ := h
  exact ⟨by omega, h2, by omega, h4⟩
theorem allS_eq (p : GStmt → Bool) (s : GStmt) : allS p s = (p s && allL p s.Body && allL p s.Else) := by cases s; rfl
theorem ref_stmts (c : GCode) (hc : c.Ok) : ∀ (n : Nat) (l : List GStmt) (hn : cntL l ≤ n) (hl : l.length ≤ 4611686018427387904) (ho : ∀ x ∈ l, x.Ok),
    Tri Tryz.prog 54 [c.av, .sl (l.map GStmt.av)] [] (D (.bool (allL (refS (arOf c.Arrays) c.Flags c.Regs) l)) []) := by
  generalize hA : refS (arOf c.Arrays) c.Flags c.Regs = p
  intro n
  induction n using Nat.strongRecOn with
  | _ n ih =>
    intro l hn hl ho
    refine Tri.enter 39 Tryz.func54 rfl rfl rfl rfl fun Fr w0 => ?_
    repeat' (first | (refine AW.r 0 ?_ <;> (first | refine AL.d (AOp.box_ro rfl rfl) ?_ | refine AL.d (AOp.box_ro rfl rfl) ?_) <;> refine AL.es 1 ?_ <;> refine AL.nil ?_) | refine AW.re 1 1 ?_ | refine AW.jt ?_ | refine AW.jf ?_ | refine AW.jj (fun hb => ?_) (fun hb => ?_) | refine AW.go ?_ | fail)
    refine AW.prune [1, 2, 5] (AW.loop (fun m af h => ∃ i : Nat, i ≤ l.length ∧ m = l.length - i ∧ af = [(1, .sl (l.map GStmt.av)), (2, .at c.av), (5, .int .i64 i)] ∧ h = [] ∧ allL p l = allL p (l.drop i)) l.length ⟨0, Nat.zero_le _, rfl, rfl, rfl, rfl⟩ ?_)
    rintro m af h ⟨i, hi, rfl, rfl, rfl, he⟩
    refine AW.seq ?_
    by_cases hlt : i < l.length
    · obtain ⟨x, hx⟩ := get_lt hlt
      have hx' : (l.map GStmt.av)[((i : Nat) : Int).toNat]? = some x.st := GStmt.get hx
      have hxm := List.mem_of_getElem? hx
      have hxo := ho x hxm
      have hcx := cnt_mem hxm
      have hbo := okB hxo
      have hS := ref_stmt c hc x hxo
      rw [hA] at hS
      have hB := ih (cntL x.Body) (by have := cntS_eq x; omega) x.Body (Nat.le_refl _) hbo.1 hbo.2.1
      have hE := ih (cntL x.Else) (by have := cntS_eq x; omega) x.Else (Nat.le_refl _) hbo.2.2.1 hbo.2.2.2
      rw [drop_cons hx, allL, allS_eq] at he
      repeat' (first | refine AW.re 2 4 ?_ | (refine AW.dq 4 ?_ <;> refine AQ.es 3 ?_ <;> refine AQ.p rfl (AOp.index_sl rfl rfl (by omega) hx' (by kernel_rfl) rfl) ?_ <;> refine AQ.es 1 ?_ <;> (first | refine AQ.p rfl (AOp.call rfl rfl hS) ?_ | refine AQ.p rfl (AOp.call rfl rfl hB) ?_ | refine AQ.p rfl (AOp.call rfl rfl hE) ?_) <;> refine AQ.es 2 ?_ <;> (first | refine AQ.es 3 ?_ | (refine AQ.x (fun hb => ?_) (fun hb => ?_) <;> refine AQ.es 3 ?_)) <;> (first | refine AQ.gp rfl (AOp.index_sl rfl rfl (by omega) hx' (by kernel_rfl) rfl) ?_ | refine AQ.k ?_) <;> refine AQ.es 2 ?_ <;> (first | refine AQ.gp rfl (AOp.call rfl rfl hS) ?_ | refine AQ.gp rfl (AOp.call rfl rfl hB) ?_ | refine AQ.gp rfl (AOp.call rfl rfl hE) ?_ | refine AQ.k ?_) <;> refine AQ.es 3 ?_ <;> (first | refine AQ.es 3 ?_ | (refine AQ.x (fun hb => ?_) (fun hb => ?_) <;> refine AQ.es 3 ?_)) <;> (first | refine AQ.gp rfl (AOp.index_sl rfl rfl (by omega) hx' (by kernel_rfl) rfl) ?_ | refine AQ.k ?_) <;> refine AQ.es 2 ?_ <;> (first | refine AQ.gp rfl (AOp.call rfl rfl hS) ?_ | refine AQ.gp rfl (AOp.call rfl rfl hB) ?_ | refine AQ.gp rfl (AOp.call rfl rfl hE) ?_ | refine AQ.k ?_) <;> refine AQ.es 2 ?_ <;> refine AQ.nil ?_) | refine AW.re 5 1 ?_ | (refine AW.r 3 ?_ <;> refine AL.es 1 ?_ <;> refine AL.d AOp.ad ?_ <;> refine AL.es 1 ?_ <;> refine AL.nil ?_) | refine AW.jt ?_ | refine AW.jf ?_ | refine AW.jj (fun hb => ?_) (fun hb => ?_) | refine AW.go ?_ | fail)
      all_goals try (exfalso; simp only [decide_eq_true_eq, decide_eq_false_iff_not, List.length_map] at *; omega)
      all_goals clear hS hB hE ih
      all_goals first
        | (refine AW.retv rfl ⟨retB ?_, rfl⟩; rw [he]; simp_all; done)
        | (refine AW.again_keep (l.length - (i + 1)) [1, 2, 5] (by omega) ⟨i + 1, hlt, rfl, rfl, rfl, ?_⟩; rw [he]; simp_all; done)
    · rw [List.drop_eq_nil_of_le (by omega)] at he
      repeat' (first | refine AW.re 2 4 ?_ | refine AW.re 6 1 ?_ | refine AW.jt ?_ | refine AW.jf ?_ | refine AW.jj (fun hb => ?_) (fun hb => ?_) | refine AW.go ?_ | fail)
      all_goals try (exfalso; simp only [decide_eq_true_eq, decide_eq_false_iff_not, List.length_map] at *; omega)
      exact AW.retv rfl ⟨by rw [he]; rfl, rfl⟩
section
variable {P : Program} {af : AF} {ah : AH} {d : Option Tmp} {T : TypeId} {ps : String} {es : Array Edge} {gd : Option (Nat × Bool)}
theorem AOp.max3 {x y z : Operand} {m n o : Int} {k : IntKind} {tys : Array TypeId} (hx : aeval af x = some (.int k m)) (hy : aeval af y = some (.int k n)) (hz : aeval af z = some (.int k o)) : AOp P ⟨d, .call ⟨.builtin .max, #[x, y, z], tys⟩, T, ps, es, gd⟩ af ah (D (.int k (max (max m n) o)) ah) :=
  AOp.of_pure fun S a w hf _ => ⟨.int k (max (max m n) o), by
    simp [execOp, resolve, invoke, builtin, Builtin.max_, Builtin.max2, (aeval_rel hf hx).int, (aeval_rel hf hy).int, (aeval_rel hf hz).int]
    simp only [Int.max_def]
    repeat' split
    all_goals omega, mk_int⟩
end
theorem depS_eq (s : GStmt) : depS s = 1 + max (depL s.Body) (depL s.Else) := by cases s; rfl
mutual
theorem depS_le : ∀ s : GStmt, depS s ≤ cntS s
  | ⟨_, _, _, _, _, _, _, _, _, body, els⟩ => by
    have h1 := depL_le body; have h2 := depL_le els
    rw [depS, cntS]; omega
theorem depL_le : ∀ l : List GStmt, depL l ≤ cntL l
  | [] => Nat.le_refl _
  | s :: l => by
    have h1 := depS_le s; have h2 := depL_le l
    rw [depL, cntL]; omega
end
theorem ref_Count : ∀ (n : Nat) (l : List GStmt) (hn : cntL l ≤ n) (hb : cntL l ≤ 1000000) (hl : l.length ≤ 4611686018427387904) (ho : ∀ x ∈ l, x.Ok),
    Tri Tryz.prog 53 [.sl (l.map GStmt.av)] [] (D (.tup [.int .i64 (cntL l), .int .i64 (depL l)]) []) := by
  intro n
  induction n using Nat.strongRecOn with
  | _ n ih =>
    intro l hn hb hl ho
    refine Tri.enter 49 Tryz.func53 rfl rfl rfl rfl fun Fr w0 => ?_
    repeat' (first | refine AW.re 0 2 ?_ | refine AW.re 1 2 ?_ | refine AW.re 2 1 ?_ | refine AW.jt ?_ | refine AW.jf ?_ | refine AW.jj (fun hb => ?_) (fun hb => ?_) | refine AW.go ?_ | fail)
    refine AW.prune [0, 4, 5, 6] (AW.loop (fun m af h => ∃ i a d : Nat, i ≤ l.length ∧ m = l.length - i ∧ af = [(0, .sl (l.map GStmt.av)), (4, .int .i64 a), (5, .int .i64 d), (6, .int .i64 i)] ∧ h = [] ∧ cntL l = a + cntL (l.drop i) ∧ depL l = max d (depL (l.drop i))) l.length ⟨0, 0, 0, Nat.zero_le _, rfl, rfl, rfl, by simp, by simp⟩ ?_)
    rintro m af h ⟨i, a, d, hi, rfl, rfl, rfl, he1, he2⟩
    refine AW.seq ?_
    by_cases hlt : i < l.length
    · obtain ⟨x, hx⟩ := get_lt hlt
      have hx' : (l.map GStmt.av)[((i : Nat) : Int).toNat]? = some x.st := GStmt.get hx
      have hxm := List.mem_of_getElem? hx
      have hxo := ho x hxm
      have hcx := cnt_mem hxm
      have hbo := okB hxo
      have hcs := cntS_eq x
      have hds := depS_eq x
      have hd := depL_le l
      have hd1 := depL_le x.Body
      have hd2 := depL_le x.Else
      have hB := ih (cntL x.Body) (by omega) x.Body (Nat.le_refl _) (by omega) hbo.1 hbo.2.1
      have hE := ih (cntL x.Else) (by omega) x.Else (Nat.le_refl _) (by omega) hbo.2.2.1 hbo.2.2.2
      rw [drop_cons hx, cntL] at he1
      rw [drop_cons hx, depL] at he2
      repeat' (first | refine AW.re 3 4 ?_ | (refine AW.r 5 ?_ <;> refine AL.es 2 ?_ <;> refine AL.d (AOp.index_sl rfl rfl (by omega) hx' (by kernel_rfl) rfl) ?_ <;> refine AL.es 2 ?_ <;> (first | refine AL.d (AOp.call rfl rfl hB) ?_ | refine AL.d (AOp.call rfl rfl hE) ?_) <;> refine AL.es 5 ?_ <;> refine AL.nil ?_) | (refine AW.r 6 ?_ <;> refine AL.es 2 ?_ <;> refine AL.d (AOp.index_sl rfl rfl (by omega) hx' (by kernel_rfl) rfl) ?_ <;> refine AL.es 2 ?_ <;> (first | refine AL.d (AOp.call rfl rfl hB) ?_ | refine AL.d (AOp.call rfl rfl hE) ?_) <;> refine AL.es 5 ?_ <;> refine AL.nil ?_) | (refine AW.r 7 ?_ <;> refine AL.es 1 ?_ <;> refine AL.d AOp.ad ?_ <;> refine AL.es 1 ?_ <;> refine AL.d AOp.ad ?_ <;> refine AL.es 1 ?_ <;> refine AL.d AOp.ad ?_ <;> refine AL.es 2 ?_ <;> refine AL.d AOp.ad ?_ <;> refine AL.es 1 ?_ <;> refine AL.d AOp.ad ?_ <;> (first | refine AL.d (AOp.max3 rfl rfl rfl) ?_ | refine AL.d (AOp.max2 rfl rfl) ?_) <;> refine AL.es 2 ?_ <;> refine AL.nil ?_) | (refine AW.r 4 ?_ <;> refine AL.es 1 ?_ <;> refine AL.d AOp.ad ?_ <;> refine AL.es 1 ?_ <;> refine AL.nil ?_) | refine AW.jt ?_ | refine AW.jf ?_ | refine AW.jj (fun hb => ?_) (fun hb => ?_) | refine AW.go ?_ | fail)
      all_goals try (exfalso; simp only [decide_eq_true_eq, decide_eq_false_iff_not, List.length_map] at *; omega)
      refine AW.again_keep (l.length - (i + 1)) [0, 4, 5, 6] (by omega) ⟨i + 1, a + 1 + cntL x.Body + cntL x.Else, max (max d (depL x.Body + 1)) (depL x.Else + 1), hlt, rfl, ?_, rfl, by omega, by omega⟩
      have e1 : ((a + 1 + cntL x.Body + cntL x.Else : Nat) : Int) = (a : Int) + 1 + cntL x.Body + cntL x.Else := by omega
      have e2 : ((max (max d (depL x.Body + 1)) (depL x.Else + 1) : Nat) : Int) = max (max (d : Int) ((depL x.Body : Int) + 1)) ((depL x.Else : Int) + 1) := by omega
      rw [e1, e2]
      rfl
    · rw [List.drop_eq_nil_of_le (by omega)] at he1 he2
      repeat' (first | refine AW.re 3 4 ?_ | refine AW.re 8 4 ?_ | refine AW.jt ?_ | refine AW.jf ?_ | refine AW.jj (fun hb => ?_) (fun hb => ?_) | refine AW.go ?_ | fail)
      all_goals try (exfalso; simp only [decide_eq_true_eq, decide_eq_false_iff_not, List.length_map] at *; omega)
      simp only [cntL, depL] at he1 he2
      exact AW.retv rfl ⟨by rw [he1, he2]; simp, rfl⟩
end Go.Proofs.YtdedkpfbfklgbaaGreat
namespace Go.Proofs.YtdedkpfbfklgbaaGreat
open Go.RowKit Go.SX
set_option maxRecDepth 100000
set_option maxHeartbeats 4000000
set_option linter.unusedVariables false
set_option linter.unusedSimpArgs false
theorem ownT_len (A : Ar) (s : GStmt) : (ownT A s).length ≤ 1 := by unfold ownT; split <;> simp
mutual
theorem testsS_len (A : Ar) : ∀ (s : GStmt) (out : List GSym), (testsS A s out).length ≤ out.length + cntS s
  | ⟨k, f, g, r, n, nm, fr, lit, regs, body, els⟩, out => by
    rw [testsS, cntS]
    have h1 := testsL_len A body (out ++ ownT A ⟨k, f, g, r, n, nm, fr, lit, regs, body, els⟩)
    have h2 := testsL_len A els (testsL A body (out ++ ownT A ⟨k, f, g, r, n, nm, fr, lit, regs, body, els⟩))
    have h3 := ownT_len A ⟨k, f, g, r, n, nm, fr, lit, regs, body, els⟩
    rw [List.length_append] at h1
    omega
theorem testsL_len (A : Ar) : ∀ (l : List GStmt) (out : List GSym), (testsL A l out).length ≤ out.length + cntL l
  | [], out => Nat.le_refl _
  | s :: l, out => by
    rw [testsL, cntL]
    have h1 := testsS_len A s out
    have h2 := testsL_len A l (testsS A s out)
    omega
end
theorem testsS_eq (A : Ar) (s : GStmt) (out : List GSym) : testsS A s out = testsL A s.Else (testsL A s.Body (out ++ ownT A s)) := by cases s; rfl
theorem sym_sz (o : List GSym) : ∀ x ∈ o.map GSym.av, x.size = 2 := by
  intro x hx
  obtain ⟨y, _, rfl⟩ := List.mem_map.1 hx
  rfl
theorem ref_tests (c : GCode) (hc : c.Ok) : ∀ (n : Nat) (l : List GStmt) (hn : cntL l ≤ n) (hl : l.length ≤ 4611686018427387904) (ho : ∀ x ∈ l, x.Ok) (out : List GSym) (tb : Option Nat) (tc : Nat) (hout : out.length + cntL l ≤ 1000000),
    Tri Tryz.prog 55 [c.av, .sl (l.map GStmt.av), .slt (out.map GSym.av) tb tc] [.tail tb (out.map GSym.av).length tc 2]
      (fun x h => ∃ b' c', x = .ret (.slt ((testsL (arOf c.Arrays) l out).map GSym.av) b' c') ∧ h = [.tail b' ((testsL (arOf c.Arrays) l out).map GSym.av).length c' 2]) := by
  have hal : c.Arrays.length ≤ 4611686018427387904 := by have := hc.2.2.1.1; omega
  generalize hA : arOf c.Arrays = A
  intro n
  induction n using Nat.strongRecOn with
  | _ n ih =>
    intro l hn hl ho out tb tc hout
    refine Tri.enter 64 Tryz.func55 rfl rfl rfl rfl fun Fr w0 => ?_
    repeat' (first | (refine AW.r 0 ?_ <;> (first | refine AL.d (AOp.box_ro rfl rfl) ?_ | refine AL.d (AOp.box_ro rfl rfl) ?_) <;> refine AL.es 1 ?_ <;> refine AL.nil ?_) | refine AW.re 1 1 ?_ | refine AW.jt ?_ | refine AW.jf ?_ | refine AW.jj (fun hb => ?_) (fun hb => ?_) | refine AW.go ?_ | fail)
    refine AW.prune [1, 2, 3, 7] (AW.loop (fun m af h => ∃ (i : Nat) (o : List GSym) (tb : Option Nat) (tc : Nat), i ≤ l.length ∧ m = l.length - i ∧ af = [(1, .sl (l.map GStmt.av)), (2, .slt (o.map GSym.av) tb tc), (3, .at c.av), (7, .int .i64 i)] ∧ h = [.tail tb (o.map GSym.av).length tc 2] ∧ testsL A l out = testsL A (l.drop i) o ∧ o.length + cntL (l.drop i) ≤ 1000000) l.length ⟨0, out, tb, tc, Nat.zero_le _, rfl, rfl, rfl, rfl, hout⟩ ?_)
    rintro m af h ⟨i, o, tb, tc, hi, rfl, rfl, rfl, he, hle⟩
    refine AW.seq ?_
    by_cases hlt : i < l.length
    · obtain ⟨x, hx⟩ := get_lt hlt
      have hx' : (l.map GStmt.av)[((i : Nat) : Int).toNat]? = some x.st := GStmt.get hx
      have hxm := List.mem_of_getElem? hx
      have hxo := ho x hxm
      have hcx := cnt_mem hxm
      have hbo := okB hxo
      have hcs := cntS_eq x
      have hB := ih (cntL x.Body) (by omega) x.Body (Nat.le_refl _) hbo.1 hbo.2.1
      have hE := ih (cntL x.Else) (by omega) x.Else (Nat.le_refl _) hbo.2.2.1 hbo.2.2.2
      rw [drop_cons hx, testsL, testsS_eq] at he
      rw [drop_cons hx, cntL] at hle
      have hOk := hxo
      obtain ⟨⟨_, _, _, _, _, _, _, hLit, _⟩, _⟩ := hOk
      have hLs := hLit.2.1
      have hF := ref_find c.Arrays x.Lit.Name hal
      repeat' (first | refine AW.re 2 4 ?_ | (refine AW.r 4 ?_ <;> refine AL.es 2 ?_ <;> refine AL.d (AOp.index_sl rfl rfl (by omega) hx' (by kernel_rfl) rfl) ?_ <;> refine AL.es 2 ?_ <;> refine AL.alloc_store (by kernel_rfl) rfl rfl rfl rfl ?_ <;> refine AL.nil ?_) | refine AW.jt ?_ | refine AW.jf ?_ | refine AW.jj (fun hb => ?_) (fun hb => ?_) | refine AW.go ?_ | fail)
      all_goals try (exfalso; simp only [decide_eq_true_eq, decide_eq_false_iff_not, List.length_map] at *; omega)
      refine AW.prune [1, 2, 3, 7, 8] ?_
      refine AW.cut (fun af ah => ∃ v : Bool, af = [(1, .sl (l.map GStmt.av)), (2, .slt (o.map GSym.av) tb tc), (3, .at c.av), (7, .int .i64 i), (8, .at x.Lit.av), (38, .bool v)] ∧ ah = [.tail tb (o.map GSym.av).length tc 2] ∧ v = decide (x.Kind = 0 ∧ x.Lit.Kind = 0 ∧ A x.Lit.Name = none)) ?_ ?_
      · repeat' (first | (refine AW.r 5 ?_ <;> refine AL.es 2 ?_ <;> refine AL.d (AOp.index_sl rfl rfl (by omega) hx' (by kernel_rfl) rfl) ?_ <;> refine AL.es 4 ?_ <;> (first | refine AL.es 5 ?_ | (refine AL.gx (fun hb => ?_) (fun hb => ?_) <;> refine AL.es 5 ?_)) <;> (first | refine AL.es 4 ?_ | (refine AL.gx (fun hb => ?_) (fun hb => ?_) <;> refine AL.es 4 ?_)) <;> (first | (refine AL.gd ?_; refine AL.d (AOp.call rfl rfl (hF.pure _)) ?_) | refine AL.gs ?_ | refine AL.gu ?_) <;> refine AL.es 2 ?_ <;> refine AL.nil ?_) | refine AW.jt ?_ | refine AW.jf ?_ | refine AW.jj (fun hb => ?_) (fun hb => ?_) | refine AW.go ?_ | fail)
        all_goals (refine AW.meet [1, 2, 3, 7, 8, 38] ⟨_, rfl, rfl, ?_⟩; clear hB hE ih hF he; simp only [beq_iff_eq, beq_eq_false_iff_ne, ne_eq] at *; simp_all [ofConst])
        rw [← hA]
        rcases findJ_spec x.Lit.Name c.Arrays 0 with ⟨e1, e2⟩ | ⟨k, a, e1, -, -, e2⟩
        · rw [e1, e2]; simp
        · rw [e1, e2]; simp
      rintro af ah ⟨v, rfl, rfl, hv⟩
      refine AW.cut (fun af ah => ∃ (tb' : Option Nat) (tc' : Nat), af = [(1, .sl (l.map GStmt.av)), (2, .slt ((o ++ ownT A x).map GSym.av) tb' tc'), (3, .at c.av), (7, .int .i64 i)] ∧ ah = [.tail tb' ((o ++ ownT A x).map GSym.av).length tc' 2]) ?_ ?_
      · repeat' (first | (refine AW.r 6 ?_ <;> refine AL.es 6 ?_ <;> refine AL.d (AOp.build (pl := [(0, 1), (1, 1)]) (z := .st [.str ⟨#[]⟩, .int .i64 0]) (by kernel_rfl) rfl rfl rfl) ?_ <;> refine AL.d (AOp.lit (e := 74) (sz := 2) (by kernel_rfl) rfl rfl rfl (by simp [AV.size, AV.sizes]) (by decide)) ?_ <;> refine AL.append (i := 0) (xs := o.map GSym.av) (e := 74) (sz := 2) (bytes := 24) rfl rfl rfl rfl (by kernel_rfl) (by kernel_rfl) (sym_sz o) (by simp [AV.size, AV.sizes]) rfl (by simp only [List.length_map]; simp; omega) (by simp only [List.length_map]; simp; omega) rfl fun b' c' => ?_ <;> refine AL.es 1 ?_ <;> refine AL.nil ?_) | refine AW.jt ?_ | refine AW.jf ?_ | refine AW.jj (fun hb => ?_) (fun hb => ?_) | refine AW.go ?_ | fail)
        · have e1 : ownT A x = [⟨x.Lit.Name, x.Lit.At.length⟩] := by rw [hb] at hv; unfold ownT; rw [if_pos (of_decide_eq_true hv.symm)]
          have e2 : (o ++ ownT A x).map GSym.av = o.map GSym.av ++ [.st [.str x.Lit.Name, .int .i64 (x.Lit.At.map iav).length]] := by rw [e1]; simp [GSym.av]
          refine AW.meet [1, 2, 3, 7] ⟨b', c', ?_, ?_⟩
          · rw [e2]; rfl
          · rw [e2]; rfl
        · have e1 : ownT A x = [] := by rw [hb] at hv; unfold ownT; rw [if_neg (of_decide_eq_false hv.symm)]
          refine AW.meet [1, 2, 3, 7] ⟨tb, tc, ?_, ?_⟩
          · rw [e1, List.append_nil]; rfl
          · rw [e1, List.append_nil]
      rintro af ah ⟨tb', tc', rfl, rfl⟩
      have hln := ownT_len A x
      refine AW.explore [true] [13, 14, 15] rfl (by kernel_rfl) (by kernel_rfl) (by kernel_rfl) (by kernel_rfl) ?_
      repeat' (first
        | refine AQE.hole rfl rfl ?_
        | refine AQE.ev rfl rfl rfl rfl ?_
        | refine AQE.op rfl (AOp.index_sl rfl rfl (by omega) hx' (by kernel_rfl) rfl) rfl rfl ?_
        | refine AQE.op rfl (AOp.field_at rfl rfl (by kernel_rfl) rfl) rfl rfl ?_
        | refine AQE.op rfl (AOp.load_at rfl rfl (by kernel_rfl)) rfl rfl ?_
        | refine AQE.nil ?_)
      refine AX.one (n := 2) 13 rfl ?_
      refine AXS.step (i := 13) rfl rfl rfl (AOp.call rfl rfl (hB (o ++ ownT A x) tb' tc' (by rw [List.length_append]; omega))) ?_ (by rintro _ _ ⟨_, _, e, _⟩; cases e)
      rintro _ _ ⟨b1, c1, e, rfl⟩
      injection e with e
      subst e
      dsimp only [List.set_cons_succ, List.set_cons_zero]
      have hl1 := testsL_len A x.Body (o ++ ownT A x)
      rw [List.length_append] at hl1
      refine AX.one (n := 1) 14 rfl ?_
      refine AXS.step (i := 14) rfl rfl rfl (AOp.call rfl rfl (hE (testsL A x.Body (o ++ ownT A x)) b1 c1 (by omega))) ?_ (by rintro _ _ ⟨_, _, e, _⟩; cases e)
      rintro _ _ ⟨b2, c2, e, rfl⟩
      injection e with e
      subst e
      dsimp only [List.set_cons_succ, List.set_cons_zero]
      have hl2 := testsL_len A x.Else (testsL A x.Body (o ++ ownT A x))
      refine AX.one (n := 0) 15 rfl ?_
      refine AXS.det (i := 15) rfl rfl rfl (AOp.ev rfl) ?_
      dsimp only [List.set_cons_succ, List.set_cons_zero]
      refine AX.done [(1, .sl (l.map GStmt.av)), (2, .slt ((testsL A x.Else (testsL A x.Body (o ++ ownT A x))).map GSym.av) b2 c2), (3, .at c.av), (7, .int .i64 i)] rfl ?_
      repeat' (first | (refine AW.r 3 ?_ <;> refine AL.es 1 ?_ <;> refine AL.d AOp.ad ?_ <;> refine AL.es 1 ?_ <;> refine AL.nil ?_) | refine AW.jt ?_ | refine AW.jf ?_ | refine AW.jj (fun hb => ?_) (fun hb => ?_) | refine AW.go ?_ | fail)
      exact AW.again_keep (l.length - (i + 1)) [1, 2, 3, 7] (by omega) ⟨i + 1, _, b2, c2, hlt, rfl, rfl, rfl, he, by omega⟩
    · rw [List.drop_eq_nil_of_le (by omega), testsL] at he
      repeat' (first | refine AW.re 2 4 ?_ | refine AW.re 8 2 ?_ | refine AW.jt ?_ | refine AW.jf ?_ | refine AW.jj (fun hb => ?_) (fun hb => ?_) | refine AW.go ?_ | fail)
      all_goals try (exfalso; simp only [decide_eq_true_eq, decide_eq_false_iff_not, List.length_map] at *; omega)
      subst he
      exact AW.retv rfl ⟨_, _, rfl, rfl⟩
end Go.Proofs.YtdedkpfbfklgbaaGreat
namespace Go.Proofs.YtdedkpfbfklgbaaGreat
open Go.RowKit Go.SX
set_option maxRecDepth 100000
set_option maxHeartbeats 4000000
set_option linter.unusedVariables false
set_option linter.unusedSimpArgs false
theorem findJ_none (n : ByteArray) (l : List GSym) : decide (findJ n l 0 ≥ 0) = (arOf l n).isSome := by
  rcases findJ_spec n l 0 with ⟨e1, e2⟩ | ⟨k, a, e1, -, -, e2⟩
  · rw [e1, e2]; rfl
  · rw [e1, e2]; simp
theorem ref_Valid (c : GCode) (hc : c.Ok) (hcnt : cntL c.Body ≤ 1000000) : Tri Tryz.prog 14 [c.av] [] (D (.bool (refValid c)) []) := by
  have hcb := hc.2.2.2
  have hca := hc.2.2.1
  have hal : c.Arrays.length ≤ 4611686018427387904 := by have := hca.1; omega
  have hbl : c.Body.length ≤ 4611686018427387904 := by have := hcb.1; omega
  have hCount := ref_Count (cntL c.Body) c.Body (Nat.le_refl _) hcnt hbl hcb.2
  have hSt := ref_stmts c hc (cntL c.Body) c.Body (Nat.le_refl _) hbl hcb.2
  have hT := ref_tests c hc (cntL c.Body) c.Body (Nat.le_refl _) hbl hcb.2 [] none 0 (by simpa using hcnt)
  have hdef : refValid c = ((decide (1 ≤ c.Flags) && decide (c.Flags ≤ 1000) && decide (0 ≤ c.Regs) && decide (c.Regs ≤ 60) && decide (c.Arrays.length ≤ 60)) && arrB [] c.Arrays && (decide (cntL c.Body ≤ 20000) && decide (depL c.Body ≤ 60) && allL (refS (arOf c.Arrays) c.Flags c.Regs) c.Body) && consT (testsL (arOf c.Arrays) c.Body [])) := rfl
  rw [hdef]
  have hTl := testsL_len (arOf c.Arrays) c.Body []
  rw [List.length_nil, Nat.zero_add] at hTl
  generalize testsL (arOf c.Arrays) c.Body [] = T at *
  generalize allL (refS (arOf c.Arrays) c.Flags c.Regs) c.Body = vS at *
  generalize hV : (decide (cntL c.Body ≤ 20000) && decide (depL c.Body ≤ 60) && vS) = v2
  generalize hH : (decide (1 ≤ c.Flags) && decide (c.Flags ≤ 1000) && decide (0 ≤ c.Regs) && decide (c.Regs ≤ 60) && decide (c.Arrays.length ≤ 60)) = v0
  refine Tri.enter 120 Tryz.func14 rfl rfl rfl rfl fun Fr w0 => ?_
  repeat' (first | (refine AW.r 0 ?_ <;> (first | refine AL.d (AOp.box_ro rfl rfl) ?_ | refine AL.d (AOp.box_ro rfl rfl) ?_) <;> refine AL.es 1 ?_ <;> refine AL.nil ?_) | refine AW.jt ?_ | refine AW.jf ?_ | refine AW.jj (fun hb => ?_) (fun hb => ?_) | refine AW.go ?_ | fail)
  refine AW.cut (fun af ah => ∃ v : Bool, af = [(1, .at c.av), (32, .bool v)] ∧ ah = [] ∧ v = !v0) ?_ ?_
  · repeat' (first | (refine AW.r 1 ?_ <;> refine AL.es 4 ?_ <;> (first | refine AL.es 5 ?_ | (refine AL.gx (fun hb => ?_) (fun hb => ?_) <;> refine AL.es 5 ?_)) <;> (first | refine AL.es 5 ?_ | (refine AL.gx (fun hb => ?_) (fun hb => ?_) <;> refine AL.es 5 ?_)) <;> (first | refine AL.es 5 ?_ | (refine AL.gx (fun hb => ?_) (fun hb => ?_) <;> refine AL.es 5 ?_)) <;> (first | refine AL.es 5 ?_ | (refine AL.gx (fun hb => ?_) (fun hb => ?_) <;> refine AL.es 5 ?_)) <;> refine AL.nil ?_) | refine AW.jt ?_ | refine AW.jf ?_ | refine AW.jj (fun hb => ?_) (fun hb => ?_) | refine AW.go ?_ | fail)
    all_goals (refine AW.meet [1, 32] ⟨_, rfl, rfl, ?_⟩; subst hH; clear hCount hSt hT; simp only [List.length_map, decide_eq_true_eq, decide_eq_false_iff_not] at *; simp_all [ofConst])
    all_goals (try (rw [Bool.eq_iff_iff]; simp; try omega))
  rintro af ah ⟨v, rfl, rfl, hv⟩
  cases v0 with
  | false =>
    subst hv
    repeat' (first | refine AW.re 2 1 ?_ | refine AW.jt ?_ | refine AW.jf ?_ | refine AW.jj (fun hb => ?_) (fun hb => ?_) | refine AW.go ?_ | fail)
    exact AW.retv rfl ⟨rfl, rfl⟩
  | true =>
    subst hv
    repeat' (first | refine AW.re 3 1 ?_ | refine AW.jt ?_ | refine AW.jf ?_ | refine AW.jj (fun hb => ?_) (fun hb => ?_) | refine AW.go ?_ | fail)
    refine AW.prune [1, 3] (AW.loop (fun m af h => ∃ i : Nat, i ≤ c.Arrays.length ∧ m = c.Arrays.length - i ∧ af = [(1, .at c.av), (3, .int .i64 i)] ∧ h = [] ∧ arrB [] c.Arrays = arrB (c.Arrays.take i) (c.Arrays.drop i)) c.Arrays.length ⟨0, Nat.zero_le _, rfl, rfl, rfl, rfl⟩ ?_)
    rintro m af h ⟨i, hi, rfl, rfl, rfl, he⟩
    refine AW.seq ?_
    by_cases hlt : i < c.Arrays.length
    · obtain ⟨x, hx⟩ := get_lt hlt
      have hx' : (c.Arrays.map GSym.av)[((i : Nat) : Int).toNat]? = some x.av := map_get hx
      have hxo := hca.2 x (List.mem_of_getElem? hx)
      have hN := ref_Name x.Name hxo.1
      have hI := ref_in 13 [x.Arity] (by simp)
      rw [show inB 13 [x.Arity] = inr 13 x.Arity by simp [inB]] at hI
      have hF := ref_find (c.Arrays.take i) x.Name (by rw [List.length_take]; omega)
      rw [List.map_take] at hF
      have htk : c.Arrays.take (i + 1) = c.Arrays.take i ++ [x] := by rw [List.take_add_one, hx]; rfl
      rw [drop_cons hx, arrB, ← htk] at he
      have hf2 := findJ_none x.Name (c.Arrays.take i)
      generalize findJ x.Name (c.Arrays.take i) 0 = j at *
      repeat' (first | refine AW.re 4 5 ?_ | (refine AW.dq 6 ?_ <;> refine AQ.es 3 ?_ <;> refine AQ.p rfl (AOp.index_sl rfl rfl (by omega) hx' (by kernel_rfl) rfl) ?_ <;> refine AQ.es 2 ?_ <;> (first | refine AQ.p rfl (AOp.call rfl rfl hN) ?_ | refine AQ.p rfl (AOp.call rfl rfl hI) ?_ | refine AQ.p rfl (AOp.call rfl rfl hF) ?_) <;> refine AQ.es 2 ?_ <;> (first | refine AQ.es 3 ?_ | (refine AQ.x (fun hb => ?_) (fun hb => ?_) <;> refine AQ.es 3 ?_)) <;> (first | refine AQ.gp rfl (AOp.index_sl rfl rfl (by omega) hx' (by kernel_rfl) rfl) ?_ | refine AQ.k ?_) <;> refine AQ.es 2 ?_ <;> (first | refine AQ.gp rfl (AOp.lit (e := 3) (sz := 1) (by kernel_rfl) rfl rfl rfl (by simp [AV.size, ofConst]) (by decide)) ?_ | refine AQ.k ?_) <;> (first | refine AQ.gp rfl (AOp.call rfl rfl hN) ?_ | refine AQ.gp rfl (AOp.call rfl rfl hI) ?_ | refine AQ.gp rfl (AOp.call rfl rfl hF) ?_ | refine AQ.k ?_) <;> refine AQ.es 3 ?_ <;> (first | refine AQ.es 3 ?_ | (refine AQ.x (fun hb => ?_) (fun hb => ?_) <;> refine AQ.es 3 ?_)) <;> (first | refine AQ.gp rfl (AOp.cut (sz := 2) rfl rfl (by kernel_rfl) (sym_sz _) bndIs.none (bndIs.some (n := i) rfl (by omega)) (by omega) (by simp; omega)) ?_ | refine AQ.k ?_) <;> refine AQ.es 3 ?_ <;> (first | refine AQ.gp rfl (AOp.index_sl rfl rfl (by omega) hx' (by kernel_rfl) rfl) ?_ | refine AQ.k ?_) <;> refine AQ.es 2 ?_ <;> (first | refine AQ.gp rfl (AOp.call rfl rfl hN) ?_ | refine AQ.gp rfl (AOp.call rfl rfl hI) ?_ | refine AQ.gp rfl (AOp.call rfl rfl hF) ?_ | refine AQ.k ?_) <;> refine AQ.es 2 ?_ <;> refine AQ.nil ?_) | refine AW.re 7 1 ?_ | (refine AW.r 5 ?_ <;> refine AL.es 1 ?_ <;> refine AL.d AOp.ad ?_ <;> refine AL.es 1 ?_ <;> refine AL.nil ?_) | refine AW.jt ?_ | refine AW.jf ?_ | refine AW.jj (fun hb => ?_) (fun hb => ?_) | refine AW.go ?_ | fail)
      all_goals try (exfalso; simp only [decide_eq_true_eq, decide_eq_false_iff_not, List.length_map] at *; omega)
      all_goals clear hN hI hF hCount hSt hT
      all_goals first
        | (refine AW.retv rfl ⟨retB ?_, rfl⟩; rw [he]; simp_all; done)
        | (refine AW.again_keep (c.Arrays.length - (i + 1)) [1, 3] (by omega) ⟨i + 1, hlt, rfl, rfl, rfl, ?_⟩; rw [he]; simp_all; done)
    · rw [List.drop_eq_nil_of_le (by omega), arrB] at he
      rw [he]
      repeat' (first | refine AW.re 4 5 ?_ | (refine AW.r 8 ?_ <;> refine AL.es 2 ?_ <;> refine AL.d (AOp.call rfl rfl hCount) ?_ <;> refine AL.es 5 ?_ <;> refine AL.nil ?_) | refine AW.jt ?_ | refine AW.jf ?_ | refine AW.jj (fun hb => ?_) (fun hb => ?_) | refine AW.go ?_ | fail)
      all_goals try (exfalso; simp only [decide_eq_true_eq, decide_eq_false_iff_not, List.length_map] at *; omega)
      refine AW.cut (fun af ah => ∃ v : Bool, af = [(1, .at c.av), (91, .bool v)] ∧ ah = [] ∧ v = !v2) ?_ ?_
      · repeat' (first | (refine AW.r 9 ?_ <;> refine AL.es 3 ?_ <;> (first | refine AL.es 4 ?_ | (refine AL.gx (fun hb => ?_) (fun hb => ?_) <;> refine AL.es 4 ?_)) <;> (first | refine AL.es 3 ?_ | (refine AL.gx (fun hb => ?_) (fun hb => ?_) <;> refine AL.es 3 ?_)) <;> (first | (refine AL.gd ?_; refine AL.d (AOp.call rfl rfl hSt) ?_) | refine AL.gs ?_ | refine AL.gu ?_) <;> refine AL.es 2 ?_ <;> refine AL.nil ?_) | refine AW.jt ?_ | refine AW.jf ?_ | refine AW.jj (fun hb => ?_) (fun hb => ?_) | refine AW.go ?_ | fail)
        all_goals (refine AW.meet [1, 91] ⟨_, rfl, rfl, ?_⟩; subst hV; clear hCount hSt hT; simp only [List.length_map, decide_eq_true_eq, decide_eq_false_iff_not] at *; simp_all [ofConst])
        all_goals (try omega)
      rintro af ah ⟨v, rfl, rfl, hv⟩
      cases v2 with
      | false =>
        subst hv
        repeat' (first | refine AW.re 10 1 ?_ | refine AW.jt ?_ | refine AW.jf ?_ | refine AW.jj (fun hb => ?_) (fun hb => ?_) | refine AW.go ?_ | fail)
        exact AW.retv rfl ⟨rfl, rfl⟩
      | true =>
        subst hv
        refine AW.own_nil 2 ?_
        repeat' (first | refine AW.jt ?_ | refine AW.jf ?_ | refine AW.jj (fun hb => ?_) (fun hb => ?_) | refine AW.go ?_ | fail)
        refine AW.region_at 11 ?_
        refine AL.d AOp.la ?_
        refine AL.d AOp.fa ?_
        refine AL.d AOp.la ?_
        refine AL.step rfl rfl (AOp.callV (args := [c.av, .sl (c.Body.map GStmt.av), .slt [] none 0]) rfl (fun S w a hfr => ?_) hT) ?_ (by rintro _ _ ⟨_, _, e, _⟩; cases e)
        · have h1 := aeval_rel hfr (x := .tmp 92) rfl
          have h2 := aeval_rel hfr (x := .tmp 94) rfl
          simp only [RelVs]
          exact ⟨_, _, rfl, h1.1, h1.2, _, _, rfl, h2.1, h2.2, _, _, rfl, (rel_nil (S := S) (w := w)).1, (rel_nil (S := S) (w := w)).2, rfl⟩
        rintro _ _ ⟨tb, tc, e, rfl⟩
        injection e with e
        subst e
        refine AL.e ?_
        refine AL.nil ?_
        refine AW.as_sl 6 rfl ?_
        refine AW.drop (List.nil_sublist _) ?_
        repeat' (first | refine AW.re 12 1 ?_ | refine AW.jt ?_ | refine AW.jf ?_ | refine AW.jj (fun hb => ?_) (fun hb => ?_) | refine AW.go ?_ | fail)
        refine AW.prune [6, 7] (AW.loop (fun m af h => ∃ i : Nat, i ≤ T.length ∧ m = T.length - i ∧ af = [(6, .sl (T.map GSym.av)), (7, .int .i64 i)] ∧ h = [] ∧ consT T = (T.drop i).all fun a => decide (arOf T a.Name = some a.Arity)) T.length ⟨0, Nat.zero_le _, rfl, rfl, rfl, rfl⟩ ?_)
        rintro m af h ⟨i, hi, rfl, rfl, rfl, he2⟩
        refine AW.seq ?_
        by_cases hlt : i < T.length
        · obtain ⟨x, hx⟩ := get_lt hlt
          have hx' : (T.map GSym.av)[((i : Nat) : Int).toNat]? = some x.av := map_get hx
          have hF := ref_find T x.Name (by omega)
          rw [drop_cons hx, List.all_cons] at he2
          rcases findJ_spec x.Name T 0 with ⟨e1, e2⟩ | ⟨k, a, e1, ha, -, e2⟩
          · exfalso
            unfold arOf at e2
            rw [Option.map_eq_none_iff, List.find?_eq_none] at e2
            exact e2 x (List.mem_of_getElem? hx) (by simp)
          · rw [e1, Nat.zero_add] at hF
            have ha' : (T.map GSym.av)[((k : Nat) : Int).toNat]? = some a.av := map_get ha
            rw [e2] at he2
            repeat' (first | refine AW.re 13 4 ?_ | (refine AW.r 15 ?_ <;> refine AL.es 3 ?_ <;> (first | refine AL.d (AOp.index_sl rfl rfl (by omega) hx' (by kernel_rfl) rfl) ?_ | refine AL.d (AOp.index_sl rfl rfl (by omega) ha' (by kernel_rfl) rfl) ?_) <;> refine AL.es 2 ?_ <;> refine AL.d (AOp.call rfl rfl hF) ?_ <;> refine AL.es 1 ?_ <;> refine AL.nil ?_) | (refine AW.dq 16 ?_ <;> refine AQ.es 2 ?_ <;> (first | refine AQ.p rfl (AOp.index_sl rfl rfl (by omega) hx' (by kernel_rfl) rfl) ?_ | refine AQ.p rfl (AOp.index_sl rfl rfl (by omega) ha' (by kernel_rfl) rfl) ?_) <;> refine AQ.es 4 ?_ <;> (first | refine AQ.p rfl (AOp.index_sl rfl rfl (by omega) hx' (by kernel_rfl) rfl) ?_ | refine AQ.p rfl (AOp.index_sl rfl rfl (by omega) ha' (by kernel_rfl) rfl) ?_) <;> refine AQ.es 3 ?_ <;> refine AQ.nil ?_) | refine AW.re 17 1 ?_ | (refine AW.r 14 ?_ <;> refine AL.es 1 ?_ <;> refine AL.d AOp.ad ?_ <;> refine AL.es 1 ?_ <;> refine AL.nil ?_) | refine AW.jt ?_ | refine AW.jf ?_ | refine AW.jj (fun hb => ?_) (fun hb => ?_) | refine AW.go ?_ | fail)
            all_goals try (exfalso; simp only [decide_eq_true_eq, decide_eq_false_iff_not, List.length_map] at *; omega)
            all_goals first
              | (refine AW.retv rfl ⟨retB ?_, rfl⟩; rw [he2, decide_eq_false (show ¬ some a.Arity = some x.Arity by simpa using hb)]; simp)
              | (refine AW.again_keep (T.length - (i + 1)) [6, 7] (by omega) ⟨i + 1, hlt, rfl, rfl, rfl, ?_⟩; rw [he2, decide_eq_true (show some a.Arity = some x.Arity by simpa using hb)]; simp)
        · rw [List.drop_eq_nil_of_le (by omega)] at he2
          repeat' (first | refine AW.re 13 4 ?_ | refine AW.re 18 1 ?_ | refine AW.jt ?_ | refine AW.jf ?_ | refine AW.jj (fun hb => ?_) (fun hb => ?_) | refine AW.go ?_ | fail)
          all_goals try (exfalso; simp only [decide_eq_true_eq, decide_eq_false_iff_not, List.length_map] at *; omega)
          exact AW.retv rfl ⟨by rw [he2]; rfl, rfl⟩
end Go.Proofs.YtdedkpfbfklgbaaGreat
namespace Go.Proofs.YtdedkpfbfklgbaaGreat
open Go.RowKit Go.SX
set_option maxRecDepth 100000
set_option maxHeartbeats 4000000
set_option linter.unusedVariables false
set_option linter.unusedSimpArgs false
def RunPost (c : GCode) (s : GStr) (G : List Bool) (fuel : Int) : AEnd → AH → Prop := fun x _ => ∃ b n g e, RunR c s G fuel b n g e ∧ x = .ret (.tup [.bool b, .int .i64 n, .int .i64 g, .int .i64 e])
def runAF (c : GCode) (s : GStr) (G : List Bool) (fuel : Int) (b r1 r2 r3 r4 mb : Nat) : AF := [(2, bools G), (3, .int .i64 fuel), (4, .at c.av), (5, .at s.av), (8, .ref r1 0), (9, .ref r2 0), (10, .ref r3 0), (11, .ref r4 0), (12, .ref b 0), (15, .ref mb 0)]
def sigOf (c : GCode) (k : ByteArray) : Option Nat := match lookA (checkedP c).A k with | some a => some a.toNat | none => (lookA (checkedP c).S k).map Int.toNat
theorem perm_three (a b c : AH) : (a ++ b ++ c).Perm (c ++ (a ++ b)) := List.perm_append_comm
theorem run_t8 (c : GCode) (s : GStr) (G : List Bool) (fuel : Int) (hc : c.Ok) (hok : RunOk c s fuel) (hck : ChkOk c) (b ba bs r1 r2 r3 r4 : Nat) (gA : MG) (B : Blk)
    (hm : MFit c.Flags.toNat c.Regs.toNat (sigOf c) ⟨s.Size, G, fuel⟩ B (m0 c s)) (Fr : Rg) (w0 : World) :
    AW (CofD Tryz.prog Tryz.f8 179 Fr (reg []) w0 (RunPost c s G fuel)) [] [.c (fst1 (sndN 8 (bodyOf Tryz.f8))), .c (sndN 9 (bodyOf Tryz.f8))] (runAF c s G fuel b r1 r2 r3 r4 B.mb) ((checkedP c).ah b ba bs gA ++ resAH r1 r2 r3 r4 false 0 0 0 ++ (m0 c s).ah ⟨s.Size, G, fuel⟩ B) := by
  obtain ⟨_, _, hca, hcb1, hcb2⟩ := hc
  have hlist := mach_list (F := c.Flags.toNat) (R := c.Regs.toNat) (sig := sigOf c) (E := ⟨s.Size, G, fuel⟩) (B := B) (cntL c.Body) c.Body (Nat.le_refl _) (by omega) hcb2 hck.body
  have hall := (hlist (m0 c s) hm).behind ((checkedP c).ah b ba bs gA ++ resAH r1 r2 r3 r4 false 0 0 0)
  repeat' (first | (refine AW.r 32 ?_ <;> refine AL.es 1 ?_ <;> refine AL.defer rfl rfl rfl ?_ <;> refine AL.nil ?_) | refine AW.jt ?_ | refine AW.jf ?_ | refine AW.jj (fun hb => ?_) (fun hb => ?_) | refine AW.go ?_ | fail)
  refine AW.perm (perm_three _ _ _) ?_
  refine AW.region_at 33 ?_
  refine AL.ev rfl rfl rfl rfl ?_
  refine AL.det (AOp.field_at rfl rfl (by kernel_rfl) rfl) rfl rfl rfl ?_
  refine AL.det (AOp.load_at rfl rfl (by kernel_rfl)) rfl rfl rfl ?_
  refine AL.stepF rfl rfl (AOp.call rfl rfl hall) ?_ ?_
  · rintro v ah' ⟨_, ⟨o, m', hex, hfit, hle, rfl, hend⟩, rfl⟩
    cases o with
    | some e => cases hend
    | none =>
      cases hend
      refine AL.nil ?_
      refine AW.perm (perm_three _ _ _).symm ?_
      refine AW.prune [8, 9, 10, 11, 15] ?_
      refine AW.seq ?_
      have hfl := hfit.flen
      have g0 := flag_get (fl := m'.flags) (x := 0) (by have := hfit.fl; omega)
      refine AW.explore [false, false, false, true, true, true, true] [14, 15, 16, 17] rfl (by kernel_rfl) (by kernel_rfl) (by kernel_rfl) (by kernel_rfl) ?_
      repeat' (first
        | refine AQE.hole rfl rfl ?_
        | refine AQE.ev rfl rfl rfl rfl ?_
        | refine AQE.op rfl (AOp.field_ref (k := 1) (off := 1) rfl (by kernel_rfl)) rfl rfl ?_
        | refine AQE.op rfl (AOp.field_ref (k := 5) (off := 5) rfl (by kernel_rfl)) rfl rfl ?_
        | refine AQE.op rfl (AOp.field_ref (k := 6) (off := 6) rfl (by kernel_rfl)) rfl rfl ?_
        | refine AQE.op rfl (AOp.load_leaf 3 rfl rfl rfl rfl (by kernel_rfl)) rfl rfl ?_
        | refine AQE.op rfl (AOp.index_osl rfl rfl (by omega) (by have := hfit.fl; omega) (by kernel_rfl)) rfl rfl ?_
        | refine AQE.op rfl (AOp.load_cell 4 rfl rfl g0 rfl (by kernel_rfl)) rfl rfl ?_
        | refine AQE.nil ?_)
      refine AX.one (n := 3) 14 rfl ?_
      refine AXS.step (i := 14) rfl rfl rfl (AOp.store_box (i := 0) (g := false) rfl rfl rfl rfl rfl (by kernel_rfl)) ?_ (by rintro _ _ ⟨⟨_, e⟩, _⟩; cases e)
      rintro _ _ ⟨⟨_, e⟩, rfl⟩
      cases e
      dsimp only [List.set_cons_succ, List.set_cons_zero]
      refine AX.one (n := 2) 15 rfl ?_
      refine AXS.step (i := 15) rfl rfl rfl (AOp.store_box (i := 1) (g := false) rfl rfl rfl rfl rfl (by kernel_rfl)) ?_ (by rintro _ _ ⟨⟨_, e⟩, _⟩; cases e)
      rintro _ _ ⟨⟨_, e⟩, rfl⟩
      cases e
      dsimp only [List.set_cons_succ, List.set_cons_zero]
      refine AX.one (n := 1) 16 rfl ?_
      refine AXS.step (i := 16) rfl rfl rfl (AOp.store_box (i := 2) (g := false) rfl rfl rfl rfl rfl (by kernel_rfl)) ?_ (by rintro _ _ ⟨⟨_, e⟩, _⟩; cases e)
      rintro _ _ ⟨⟨_, e⟩, rfl⟩
      cases e
      dsimp only [List.set_cons_succ, List.set_cons_zero]
      refine AX.one (n := 0) 17 rfl ?_
      refine AXS.step (i := 17) rfl rfl rfl (AOp.store_box (i := 3) (g := false) rfl rfl rfl rfl rfl (by kernel_rfl)) ?_ (by rintro _ _ ⟨⟨_, e⟩, _⟩; cases e)
      rintro _ _ ⟨⟨_, e⟩, rfl⟩
      cases e
      dsimp only [List.set_cons_succ, List.set_cons_zero]
      refine AX.done [(8, .ref r1 0), (9, .ref r2 0), (10, .ref r3 0), (11, .ref r4 0)] rfl ?_
      refine AW.retD1 (cs := [.pointer (some ⟨r1, 0, none⟩), .pointer (some ⟨r2, 0, none⟩), .pointer (some ⟨r3, 0, none⟩), .pointer (some ⟨r4, 0, none⟩)]) rfl ((TriD.frame [true, true, true, true] (run_return r1 r2 r3 r4 (flagAt m'.flags 0) m'.steps m'.used 0)).mono ?_)
      rintro u' h ⟨_, ⟨rfl, rfl⟩, rfl⟩
      exact ⟨rfl, _, .cell 0 rfl rfl (by kernel_rfl) (.cell 1 rfl rfl (by kernel_rfl) (.cell 2 rfl rfl (by kernel_rfl) (.cell 3 rfl rfl (by kernel_rfl) .nil))), _, _, _, _, .ok hok hex, rfl⟩
  · rintro v ah' ⟨_, ⟨o, m', hex, hfit, hle, rfl, hend⟩, rfl⟩
    cases o with
    | none => cases hend
    | some e =>
      cases hend
      refine APanF.perm (perm_three _ _ _).symm ?_
      refine APanF.of1 (cs := [.pointer (some ⟨r1, 0, none⟩), .pointer (some ⟨r2, 0, none⟩), .pointer (some ⟨r3, 0, none⟩), .pointer (some ⟨r4, 0, none⟩)]) rfl rfl ((TriD.frame [false, false, false, true, true, true, true] (run_panic r1 r2 r3 r4 false 0 0 0 e)).mono ?_)
      rintro u' h ⟨_, ⟨rfl, rfl⟩, rfl⟩
      exact ⟨rfl, _, .cell 0 rfl rfl (by kernel_rfl) (.cell 1 rfl rfl (by kernel_rfl) (.cell 2 rfl rfl (by kernel_rfl) (.cell 3 rfl rfl (by kernel_rfl) .nil))), _, _, _, _, .stop hok hex, rfl⟩
end Go.Proofs.YtdedkpfbfklgbaaGreat
namespace Go.Proofs.YtdedkpfbfklgbaaGreat
open Go.RowKit Go.SX
set_option maxRecDepth 100000
set_option maxHeartbeats 4000000
set_option linter.unusedVariables false
set_option linter.unusedSimpArgs false
theorem idx_spec {α : Type} (p : α → Bool) : ∀ (l : List α) (i : Nat), 0 ≤ idxFrom p l i → ∃ j x, idxFrom p l i = ((i + j : Nat) : Int) ∧ l[j]? = some x ∧ p x = true
  | [], i, h => by simp [idxFrom] at h
  | x :: l, i, h => by
    rw [idxFrom] at h ⊢
    by_cases hp : p x = true
    · rw [if_pos hp]; exact ⟨0, x, by simp, rfl, hp⟩
    · rw [if_neg hp] at h ⊢
      obtain ⟨j, y, h1, h2, h3⟩ := idx_spec p l (i + 1) h
      exact ⟨j + 1, y, by rw [h1]; omega, by simpa using h2, h3⟩
theorem find_rel {s : GStr} {k : ByteArray} {ar : Int} (h : 0 ≤ findI s k ar) : ∃ r, s.Rels[(findI s k ar).toNat]? = some r ∧ r.Name = k ∧ r.Arity = ar ∧ findI s k ar < s.Rels.length := by
  obtain ⟨j, x, h1, h2, h3⟩ := idx_spec _ _ _ h
  have h4 : findI s k ar = ((0 + j : Nat) : Int) := h1
  simp only [Bool.and_eq_true, decide_eq_true_eq] at h3
  have := (List.getElem?_eq_some_iff.1 h2).1
  exact ⟨x, by rw [h4]; simpa using h2, h3.1, h3.2, by rw [h4]; omega⟩
theorem rels_mem {n : Int} {all : List GRel} : ∀ (l : List GRel) (i : Nat), relsGo n all i l = true → ∀ r ∈ l, relB n r = true
  | [], _, _, r, h => by cases h
  | q :: l, i, h, r, hr => by
    simp only [relsGo, Bool.and_eq_true] at h
    rcases List.mem_cons.1 hr with rfl | hr
    · exact h.1.1
    · exact rels_mem l (i + 1) h.2 r hr
theorem valid_rel {s : GStr} (hv : validStr s = true) : 1 ≤ s.Size ∧ s.Size ≤ 64 ∧ ∀ r ∈ s.Rels, relB s.Size r = true := by
  simp only [validStr, Bool.and_eq_true, decide_eq_true_eq] at hv
  exact ⟨hv.1.1.1, hv.1.1.2, rels_mem _ _ hv.2⟩
theorem rel_power {n : Int} (h1 : 1 ≤ n) (h2 : n ≤ 64) {r : GRel} (h : relB n r = true) : (powerR n r.Arity).2 = 0 ∧ 0 ≤ r.Arity ∧ r.Arity ≤ 12 := by
  simp only [relB, Bool.and_eq_true, decide_eq_true_eq] at h
  refine ⟨?_, h.1.1.1.2, h.1.1.2⟩
  unfold powerR
  rw [if_neg (by omega), if_neg (by omega)]
theorem power_val {n k : Int} (h : (powerR n k).2 = 0) : (powerR n k).1 = n ^ k.toNat ∧ n ^ k.toNat ≤ 4096 ∧ 0 ≤ n ^ k.toNat := by
  obtain ⟨g1, g2, g3, g4, g5⟩ := powerR_ok h
  have e := powGo_eq g1 k.toNat 1 (by omega) (by omega) g5
  rw [Int.one_mul] at e
  refine ⟨?_, e.2, Int.pow_nonneg (by omega)⟩
  unfold powerR at h ⊢
  rw [if_neg (by omega)] at h ⊢
  rw [if_neg (by omega)]
  exact e.1
theorem tup_mem {n ar : Int} : ∀ (l : List (List Int)) (p : Option (List Int)), tupGo n ar p l = true → ∀ t ∈ l, (t.length : Int) = ar ∧ elemsB n t = true
  | [], p, h, t, ht => by cases ht
  | q :: l, p, h, t, ht => by
    rw [tupGo_cons] at h
    simp only [Bool.and_eq_true, decide_eq_true_eq] at h
    rcases List.mem_cons.1 ht with rfl | ht
    · exact ⟨h.1.1.1, h.1.1.2⟩
    · exact tup_mem l _ h.2 t ht
theorem rankGo_bd {n : Int} (hn : 1 ≤ n) : ∀ (l : List Int) (r : Int) (i : Nat), (∀ x ∈ l, 0 ≤ x ∧ x < n) → 0 ≤ r → r < n ^ i → 0 ≤ rankGo n l r ∧ rankGo n l r < n ^ (i + l.length)
  | [], r, i, _, h0, h1 => ⟨h0, by simpa [rankGo] using h1⟩
  | x :: l, r, i, hl, h0, h1 => by
    have hb := hl x (by simp)
    have h2 : 0 ≤ r * n := Int.mul_nonneg h0 (by omega)
    have h3 : r * n + n ≤ n ^ (i + 1) := by
      rw [Int.pow_succ]
      have := Int.mul_le_mul_of_nonneg_right (show r + 1 ≤ n ^ i by omega) (show 0 ≤ n by omega)
      rw [Int.add_mul] at this; omega
    have := rankGo_bd hn l (r * n + x) (i + 1) (fun y hy => hl y (by simp [hy])) (by omega) (by omega)
    rw [rankGo, show i + (x :: l).length = i + 1 + l.length by simp; omega]
    exact this
theorem rank_bd {n : Int} {r : GRel} (h1 : 1 ≤ n) (h2 : n ≤ 64) (h : relB n r = true) {t : List Int} (ht : t ∈ r.Tuples) : 0 ≤ (rankR n t).1 ∧ (rankR n t).1 < n ^ r.Arity.toNat := by
  have hp := rel_power h1 h2 h
  simp only [relB, Bool.and_eq_true, decide_eq_true_eq] at h
  obtain ⟨g1, g2⟩ := tup_mem _ _ h.2 t ht
  have g3 := rankGo_bd h1 t 0 0 (elems_mem g2) (by omega) (by simp)
  have g4 : rankR n t = (rankGo n t 0, 0) := by
    unfold rankR
    rw [g1, if_pos hp.1, if_pos g2]
  rw [g4]
  rw [Nat.zero_add, show t.length = r.Arity.toNat by omega] at g3
  exact g3
theorem tabGo_len (n : Int) : ∀ (l : List (List Int)) (xs : List Bool), (tabGo n l xs).length = xs.length
  | [], xs => rfl
  | t :: l, xs => by rw [tabGo, tabGo_len n l]; simp
theorem setA_new {α : Type} : ∀ {A : List (ByteArray × α)} {k : ByteArray} {v : α}, k ∉ A.map (·.1) → setA A k v = A ++ [(k, v)]
  | [], k, v, _ => rfl
  | (k', w) :: A, k, v, h => by
    simp only [List.map_cons, List.mem_cons, not_or] at h
    rw [setA, if_neg h.1, setA_new h.2]; rfl
def Blk.add (B : Blk) (k : ByteArray) (nb : Nat) (g : MG) : Blk := { B with names := B.names ++ [k], bk := fun x => if x = k then nb else B.bk x, gl := g }
theorem ah_new (E : Env) (B : Blk) (m : MS) (X : AH) {k : ByteArray} (hk : k ∉ B.names) (nb : Nat) (xs : List Bool) (n : Nat) (hn : n = xs.length) (ys : List AV) (hys : ys = xs.map bav) :
    (Own.row nb ys :: Own.map B.lb (mset (kvW oslv (relA B m)) (.str k) (.osl nb n n)) (gset (kvW oslv (relA B m)) B.gl (.str k)) :: (X ++ (Own.box B.mb (m.box E B) :: .row B.fb (m.flags.map bav) :: .row B.rb (m.regs.map iav) :: .map B.ub runKV B.gu :: B.names.map fun k => .row (B.bk k) ((m.rels k).map bav)))).Perm
      (X ++ ({ m with rels := upd m.rels k xs } : MS).ah E (B.add k nb (gset (kvW oslv (relA B m)) B.gl (.str k)))) := by
  subst hys
  have e1 : mset (kvW oslv (relA B m)) (.str k) (.osl nb n n) = kvW oslv (relA (B.add k nb (gset (kvW oslv (relA B m)) B.gl (.str k))) { m with rels := upd m.rels k xs }) := by
    have : mset (kvW oslv (relA B m)) (.str k) (oslv (nb, n)) = kvW oslv (setA (relA B m) k (nb, n)) := mset_kvW _
    refine this.trans ?_
    rw [setA_new (by unfold relA; simpa using hk)]
    congr 1
    unfold relA Blk.add
    simp only [List.map_append, List.map_cons, List.map_nil, upd_same, if_pos, hn]
    congr 1
    refine List.map_congr_left fun a ha => ?_
    have hak : a ≠ k := fun e => hk (e ▸ ha)
    simp [upd_ne _ _ hak, hak]
  have e2 : (B.add k nb (gset (kvW oslv (relA B m)) B.gl (.str k))).names.map (fun a => Own.row ((B.add k nb (gset (kvW oslv (relA B m)) B.gl (.str k))).bk a) ((upd m.rels k xs a).map bav)) = (B.names.map fun k => Own.row (B.bk k) ((m.rels k).map bav)) ++ [Own.row nb (xs.map bav)] := by
    unfold Blk.add
    simp only [List.map_append, List.map_cons, List.map_nil, upd_same, if_pos]
    congr 1
    refine List.map_congr_left fun a ha => ?_
    have hak : a ≠ k := fun e => hk (e ▸ ha)
    simp [upd_ne _ _ hak, hak]
  have e3 : ({ m with rels := upd m.rels k xs } : MS).ah E (B.add k nb (gset (kvW oslv (relA B m)) B.gl (.str k))) = Own.box B.mb (m.box E B) :: .row B.fb (m.flags.map bav) :: .row B.rb (m.regs.map iav) :: .map B.lb (mset (kvW oslv (relA B m)) (.str k) (.osl nb n n)) (gset (kvW oslv (relA B m)) B.gl (.str k)) :: .map B.ub runKV B.gu :: ((B.names.map fun k => Own.row (B.bk k) ((m.rels k).map bav)) ++ [Own.row nb (xs.map bav)]) := by
    rw [← e2, e1]; rfl
  rw [e3]
  generalize Own.row nb (xs.map bav) = rw
  generalize Own.map B.lb (mset (kvW oslv (relA B m)) (.str k) (.osl nb n n)) (gset (kvW oslv (relA B m)) B.gl (.str k)) = mp
  generalize (B.names.map fun k => Own.row (B.bk k) ((m.rels k).map bav)) = Rs
  generalize Own.box B.mb (m.box E B) = x1
  generalize Own.row B.fb (m.flags.map bav) = x2
  generalize Own.row B.rb (m.regs.map iav) = x3
  generalize Own.map B.ub runKV B.gu = x4
  refine (List.perm_append_singleton rw (mp :: (X ++ (x1 :: x2 :: x3 :: x4 :: Rs)))).symm.trans ?_
  refine (List.Perm.append_right [rw] (show (mp :: (X ++ (x1 :: x2 :: x3 :: x4 :: Rs))).Perm ((X ++ [x1, x2, x3]) ++ mp :: (x4 :: Rs)) from ?_)).trans ?_
  · have := (List.perm_middle (a := mp) (l₁ := X ++ [x1, x2, x3]) (l₂ := x4 :: Rs)).symm
    simpa using this
  · simp
end Go.Proofs.YtdedkpfbfklgbaaGreat
namespace Go.Proofs.YtdedkpfbfklgbaaGreat
open Go.RowKit Go.SX
set_option maxRecDepth 100000
set_option maxHeartbeats 4000000
set_option linter.unusedVariables false
set_option linter.unusedSimpArgs false
def ppow (n : Int) : Nat → Int → Int
  | 0, p => p
  | k + 1, p => if p ≤ 4096 then ppow n k (p * n) else p
theorem ppow_big (n : Int) (k : Nat) {p : Int} (h : ¬ p ≤ 4096) : ppow n k p = p := by
  cases k with
  | zero => rfl
  | succ k => rw [ppow, if_neg h]
theorem ppow_powGo {n : Int} (hn : 1 ≤ n) : ∀ (k : Nat) (p : Int), 1 ≤ p → p ≤ 4096 → (0 ≤ powGo n k p ∧ ppow n k p = powGo n k p ∧ ppow n k p ≤ 4096) ∨ (powGo n k p < 0 ∧ 4096 < ppow n k p)
  | 0, p, h1, h2 => .inl ⟨by rw [powGo]; omega, rfl, by rw [ppow]; omega⟩
  | k + 1, p, h1, h2 => by
    rw [powGo, ppow, if_pos h2]
    by_cases h : p * n > 4096
    · rw [if_pos h, ppow_big n k (by omega)]
      exact .inr ⟨by omega, by omega⟩
    · rw [if_neg h]
      have : p * 1 ≤ p * n := Int.mul_le_mul_of_nonneg_left hn (by omega)
      exact ppow_powGo hn k _ (by omega) (by omega)
theorem ref_Pow (n k : Int) (hn : 1 ≤ n ∧ n ≤ 64) (hk : 0 ≤ k ∧ k ≤ 12) : Tri Tryz.prog 35 [.int .i64 n, .int .i64 k] [] (D (.int .i64 (ppow n k.toNat 1)) []) := by
  refine Tri.enter 20 Tryz.func35 rfl rfl rfl rfl fun Fr w0 => ?_
  repeat' (first | refine AW.re 0 1 ?_ | refine AW.re 1 1 ?_ | refine AW.re 2 1 ?_ | refine AW.jt ?_ | refine AW.jf ?_ | refine AW.jj (fun hb => ?_) (fun hb => ?_) | refine AW.go ?_ | fail)
  refine AW.prune [0, 1, 5, 6] (AW.loop (fun mz af h => ∃ (i : Nat) (p : Int), i ≤ k.toNat ∧ mz = k.toNat - i ∧ af = [(0, .int .i64 n), (1, .int .i64 k), (5, .int .i64 p), (6, .int .i64 i)] ∧ h = [] ∧ (1 ≤ p ∧ p ≤ 4096 * 64 ∧ ppow n k.toNat 1 = ppow n (k.toNat - i) p)) k.toNat ⟨0, 1, Nat.zero_le _, rfl, rfl, rfl, ⟨by omega, by omega, rfl⟩⟩ ?_)
  rintro mz af h ⟨i, p, hi, rfl, rfl, rfl, he⟩
  refine AW.seq ?_
  by_cases hlt : i < k.toNat
  all_goals obtain ⟨h1, h2, he⟩ := he
  · rw [show k.toNat - i = (k.toNat - (i + 1)) + 1 by omega, ppow] at he
    by_cases hp : p ≤ 4096
    · have m1 : p * 1 ≤ p * n := Int.mul_le_mul_of_nonneg_left hn.1 (by omega)
      have m2 : p * n ≤ 4096 * 64 := Int.mul_le_mul hp hn.2 (by omega) (by omega)
      rw [if_pos hp] at he
      repeat' (first | (refine AW.r 3 ?_ <;> refine AL.es 4 ?_ <;> (first | refine AL.es 3 ?_ | (refine AL.gx (fun hb => ?_) (fun hb => ?_) <;> refine AL.es 3 ?_)) <;> refine AL.nil ?_) | (refine AW.r 5 ?_ <;> refine AL.es 2 ?_ <;> refine AL.d (AOp.mul rfl rfl (by omega)) ?_ <;> refine AL.es 1 ?_ <;> refine AL.nil ?_) | (refine AW.r 4 ?_ <;> refine AL.es 1 ?_ <;> (first | refine AL.d (AOp.mul rfl rfl (by omega)) ?_ | refine AL.d AOp.ad ?_) <;> refine AL.es 1 ?_ <;> refine AL.nil ?_) | refine AW.jt ?_ | refine AW.jf ?_ | refine AW.jj (fun hb => ?_) (fun hb => ?_) | refine AW.go ?_ | fail)
      all_goals try (exfalso; simp only [decide_eq_true_eq, decide_eq_false_iff_not, List.length_map] at *; omega)
      refine AW.again_keep (k.toNat - (i + 1)) [0, 1, 5, 6] (by omega) ⟨i + 1, p * n, hlt, rfl, rfl, rfl, ?_⟩
      exact ⟨by omega, by omega, he⟩
    · rw [if_neg hp] at he
      repeat' (first | (refine AW.r 3 ?_ <;> refine AL.es 4 ?_ <;> (first | refine AL.es 3 ?_ | (refine AL.gx (fun hb => ?_) (fun hb => ?_) <;> refine AL.es 3 ?_)) <;> refine AL.nil ?_) | refine AW.re 6 2 ?_ | refine AW.jt ?_ | refine AW.jf ?_ | refine AW.jj (fun hb => ?_) (fun hb => ?_) | refine AW.go ?_ | fail)
      all_goals try (exfalso; simp only [decide_eq_true_eq, decide_eq_false_iff_not, List.length_map] at *; omega)
      exact AW.retv rfl ⟨by rw [he], rfl⟩
  · rw [show k.toNat - i = 0 by omega, ppow] at he
    repeat' (first | (refine AW.r 3 ?_ <;> refine AL.es 4 ?_ <;> (first | refine AL.es 3 ?_ | (refine AL.gx (fun hb => ?_) (fun hb => ?_) <;> refine AL.es 3 ?_)) <;> refine AL.nil ?_) | refine AW.re 6 2 ?_ | refine AW.jt ?_ | refine AW.jf ?_ | refine AW.jj (fun hb => ?_) (fun hb => ?_) | refine AW.go ?_ | fail)
    all_goals try (exfalso; simp only [decide_eq_true_eq, decide_eq_false_iff_not, List.length_map] at *; omega)
    exact AW.retv rfl ⟨by rw [he], rfl⟩
theorem elemsB_cons (n x : Int) (t : List Int) : elemsB n (x :: t) = (!(decide (x < 0) || decide (x ≥ n)) && elemsB n t) := by unfold elemsB; simp
theorem ref_InS (n : Int) (t : List Int) (hl : t.length ≤ 4611686018427387904) : Tri Tryz.prog 118 [.int .i64 n, ints t] [] (D (.bool (elemsB n t)) []) := by
  refine Tri.enter 25 Tryz.func118 rfl rfl rfl rfl fun Fr w0 => ?_
  repeat' (first | refine AW.re 0 1 ?_ | refine AW.re 1 1 ?_ | refine AW.jt ?_ | refine AW.jf ?_ | refine AW.jj (fun hb => ?_) (fun hb => ?_) | refine AW.go ?_ | fail)
  refine AW.prune [0, 1, 5] (AW.loop (fun mz af h => ∃ (i : Nat), i ≤ t.length ∧ mz = t.length - i ∧ af = [(0, .int .i64 n), (1, ints t), (5, .int .i64 i)] ∧ h = [] ∧ elemsB n t = elemsB n (t.drop i)) t.length ⟨0, Nat.zero_le _, rfl, rfl, rfl, rfl⟩ ?_)
  rintro mz af h ⟨i, hi, rfl, rfl, rfl, he⟩
  refine AW.seq ?_
  by_cases hlt : i < t.length
  · obtain ⟨x, hx⟩ := get_lt hlt
    have hx' : (t.map iav)[((i : Nat) : Int).toNat]? = some (iav x) := map_get hx
    rw [drop_cons hx, elemsB_cons] at he
    repeat' (first | refine AW.re 2 4 ?_ | (refine AW.r 4 ?_ <;> refine AL.es 2 ?_ <;> refine AL.d (AOp.index_sl rfl rfl (by omega) hx' (by kernel_rfl) rfl) ?_ <;> refine AL.es 3 ?_ <;> (first | refine AL.es 2 ?_ | (refine AL.gx (fun hb => ?_) (fun hb => ?_) <;> refine AL.es 2 ?_)) <;> (first | (refine AL.gd ?_; refine AL.d (AOp.index_sl rfl rfl (by omega) hx' (by kernel_rfl) rfl) ?_) | refine AL.gs ?_ | refine AL.gu ?_) <;> refine AL.es 4 ?_ <;> refine AL.nil ?_) | refine AW.re 5 1 ?_ | (refine AW.r 3 ?_ <;> refine AL.es 1 ?_ <;> refine AL.d AOp.ad ?_ <;> refine AL.es 1 ?_ <;> refine AL.nil ?_) | refine AW.jt ?_ | refine AW.jf ?_ | refine AW.jj (fun hb => ?_) (fun hb => ?_) | refine AW.go ?_ | fail)
    all_goals try (exfalso; simp only [decide_eq_true_eq, decide_eq_false_iff_not, List.length_map] at *; omega)
    all_goals first
      | (refine AW.retv rfl ⟨retB ?_, rfl⟩; rw [he]; simp_all; done)
      | (refine AW.again_keep (t.length - (i + 1)) [0, 1, 5] (by omega) ⟨i + 1, hlt, rfl, rfl, rfl, ?_⟩; rw [he]; simp_all; done)
  · rw [List.drop_eq_nil_of_le (by omega)] at he
    repeat' (first | refine AW.re 2 4 ?_ | refine AW.re 6 1 ?_ | refine AW.jt ?_ | refine AW.jf ?_ | refine AW.jj (fun hb => ?_) (fun hb => ?_) | refine AW.go ?_ | fail)
    all_goals try (exfalso; simp only [decide_eq_true_eq, decide_eq_false_iff_not, List.length_map] at *; omega)
    exact AW.retv rfl ⟨by rw [he]; rfl, rfl⟩
theorem cmpL_same (a b : List Int) (x : Int) : cmpL (x :: a) (x :: b) = cmpL a b := by rw [cmpL, if_pos]; unfold cmpI; rw [if_neg (by omega), if_neg (by omega)]
theorem cmpL_diff (a b : List Int) {x y : Int} (h : x ≠ y) : (cmpL (x :: a) (y :: b) < 0) = (x < y) := by
  rw [cmpL, if_neg (by unfold cmpI; split; omega; split <;> omega)]
  unfold cmpI
  by_cases h1 : x < y
  · rw [if_pos h1]; simp [h1]
  · rw [if_neg h1, if_pos (by omega)]; simp [h1]
theorem ref_Less (a b : List Int) (hab : a.length = b.length) (hl : a.length ≤ 4611686018427387904) : Tri Tryz.prog 119 [ints a, ints b] [] (D (.bool (decide (cmpL a b < 0))) []) := by
  refine Tri.enter 30 Tryz.func119 rfl rfl rfl rfl fun Fr w0 => ?_
  repeat' (first | refine AW.re 0 1 ?_ | refine AW.re 1 1 ?_ | refine AW.jt ?_ | refine AW.jf ?_ | refine AW.jj (fun hb => ?_) (fun hb => ?_) | refine AW.go ?_ | fail)
  refine AW.prune [0, 1, 5] (AW.loop (fun mz af h => ∃ (i : Nat), i ≤ a.length ∧ mz = a.length - i ∧ af = [(0, ints a), (1, ints b), (5, .int .i64 i)] ∧ h = [] ∧ cmpL a b = cmpL (a.drop i) (b.drop i)) a.length ⟨0, Nat.zero_le _, rfl, rfl, rfl, rfl⟩ ?_)
  rintro mz af h ⟨i, hi, rfl, rfl, rfl, he⟩
  refine AW.seq ?_
  by_cases hlt : i < a.length
  · obtain ⟨x, hx⟩ := get_lt hlt
    obtain ⟨y, hy⟩ := get_lt (show i < b.length by omega)
    have hx' : (a.map iav)[((i : Nat) : Int).toNat]? = some (iav x) := map_get hx
    have hy' : (b.map iav)[((i : Nat) : Int).toNat]? = some (iav y) := map_get hy
    rw [drop_cons hx, drop_cons hy] at he
    repeat' (first | refine AW.re 2 4 ?_ | (refine AW.dq 4 ?_ <;> refine AQ.es 2 ?_ <;> (first | refine AQ.p rfl (AOp.index_sl rfl rfl (by omega) hx' (by kernel_rfl) rfl) ?_ | refine AQ.p rfl (AOp.index_sl rfl rfl (by omega) hy' (by kernel_rfl) rfl) ?_) <;> refine AQ.es 3 ?_ <;> (first | refine AQ.p rfl (AOp.index_sl rfl rfl (by omega) hx' (by kernel_rfl) rfl) ?_ | refine AQ.p rfl (AOp.index_sl rfl rfl (by omega) hy' (by kernel_rfl) rfl) ?_) <;> refine AQ.es 2 ?_ <;> refine AQ.nil ?_) | (refine AW.dq 5 ?_ <;> refine AQ.es 2 ?_ <;> (first | refine AQ.p rfl (AOp.index_sl rfl rfl (by omega) hx' (by kernel_rfl) rfl) ?_ | refine AQ.p rfl (AOp.index_sl rfl rfl (by omega) hy' (by kernel_rfl) rfl) ?_) <;> refine AQ.es 3 ?_ <;> (first | refine AQ.p rfl (AOp.index_sl rfl rfl (by omega) hx' (by kernel_rfl) rfl) ?_ | refine AQ.p rfl (AOp.index_sl rfl rfl (by omega) hy' (by kernel_rfl) rfl) ?_) <;> refine AQ.es 3 ?_ <;> refine AQ.nil ?_) | (refine AW.r 3 ?_ <;> refine AL.es 1 ?_ <;> refine AL.d AOp.ad ?_ <;> refine AL.es 1 ?_ <;> refine AL.nil ?_) | refine AW.jt ?_ | refine AW.jf ?_ | refine AW.jj (fun hb => ?_) (fun hb => ?_) | refine AW.go ?_ | fail)
    all_goals try (exfalso; simp only [decide_eq_true_eq, decide_eq_false_iff_not, List.length_map] at *; omega)
    · refine AW.retv rfl ⟨congrArg (fun b => AEnd.ret (AV.bool b)) ?_, rfl⟩
      rw [he, decide_eq_decide, cmpL_diff _ _ (by simpa using hb)]
    · refine AW.again_keep (a.length - (i + 1)) [0, 1, 5] (by omega) ⟨i + 1, hlt, rfl, rfl, rfl, ?_⟩
      obtain rfl : x = y := by simpa using hb
      rw [he, cmpL_same]
  · rw [List.drop_eq_nil_of_le (by omega), List.drop_eq_nil_of_le (by omega)] at he
    repeat' (first | refine AW.re 2 4 ?_ | refine AW.re 6 1 ?_ | refine AW.jt ?_ | refine AW.jf ?_ | refine AW.jj (fun hb => ?_) (fun hb => ?_) | refine AW.go ?_ | fail)
    all_goals try (exfalso; simp only [decide_eq_true_eq, decide_eq_false_iff_not, List.length_map] at *; omega)
    exact AW.retv rfl ⟨by rw [he]; rfl, rfl⟩
theorem ref_rel (n : Int) (hn : 1 ≤ n ∧ n ≤ 64) (r : GRel) (hr : r.Ok) : Tri Tryz.prog 88 [.int .i64 n, r.av] [] (D (.bool (relB n r)) []) := by
  have hN := ref_Name r.Name hr.1
  have htl : r.Tuples.length ≤ 4611686018427387904 := by have := hr.2.2.1; omega
  have hts : ∀ t ∈ r.Tuples, t.length ≤ 4611686018427387904 := fun t ht => by have := (hr.2.2.2 t ht).1; omega
  have hdef : relB n r = (nameB r.Name && (decide (0 ≤ r.Arity) && decide (r.Arity ≤ 12)) && decide (0 ≤ powGo n r.Arity.toNat 1) && tupGo n r.Arity none r.Tuples) := by unfold relB tuplesB; simp [Bool.and_assoc]
  rw [hdef]
  generalize nameB r.Name = b1 at *
  have hP : 0 ≤ r.Arity ∧ r.Arity ≤ 12 → Tri Tryz.prog 35 [.int .i64 n, .int .i64 r.Arity] [] (D (.int .i64 (ppow n r.Arity.toNat 1)) []) := fun h => ref_Pow n r.Arity hn h
  have hpp := ppow_powGo hn.1 r.Arity.toNat 1 (by omega) (by omega)
  by_cases har : 0 ≤ r.Arity ∧ r.Arity ≤ 12
  · have hP := hP har
    rw [decide_eq_true har.1, decide_eq_true har.2]
    rcases hpp with ⟨p1, p2, p3⟩ | ⟨p1, p2⟩
    · rw [decide_eq_true p1]
      cases b1 with
      | false =>
        refine Tri.enter 72 Tryz.func88 rfl rfl rfl rfl fun Fr w0 => ?_
        repeat' (first | (refine AW.r 0 ?_ <;> (first | refine AL.d (AOp.box_ro rfl rfl) ?_ | refine AL.d (AOp.box_ro rfl rfl) ?_) <;> refine AL.es 1 ?_ <;> refine AL.nil ?_) | (refine AW.r 1 ?_ <;> refine AL.es 2 ?_ <;> refine AL.d (AOp.call rfl rfl hN) ?_ <;> refine AL.es 2 ?_ <;> (first | refine AL.es 5 ?_ | (refine AL.gx (fun hb => ?_) (fun hb => ?_) <;> refine AL.es 5 ?_)) <;> (first | refine AL.es 5 ?_ | (refine AL.gx (fun hb => ?_) (fun hb => ?_) <;> refine AL.es 5 ?_)) <;> (first | refine AL.es 3 ?_ | (refine AL.gx (fun hb => ?_) (fun hb => ?_) <;> refine AL.es 3 ?_)) <;> (first | (refine AL.gd ?_; refine AL.d (AOp.call rfl rfl hN) ?_) | refine AL.gs ?_ | refine AL.gu ?_) <;> refine AL.es 2 ?_ <;> refine AL.nil ?_) | refine AW.re 2 1 ?_ | refine AW.jt ?_ | refine AW.jf ?_ | refine AW.jj (fun hb => ?_) (fun hb => ?_) | refine AW.go ?_ | fail)
        all_goals try (exfalso; simp only [decide_eq_true_eq, decide_eq_false_iff_not, List.length_map] at *; omega)
        all_goals exact AW.retv rfl ⟨rfl, rfl⟩
      | true =>
        refine Tri.enter 72 Tryz.func88 rfl rfl rfl rfl fun Fr w0 => ?_
        repeat' (first | (refine AW.r 0 ?_ <;> (first | refine AL.d (AOp.box_ro rfl rfl) ?_ | refine AL.d (AOp.box_ro rfl rfl) ?_) <;> refine AL.es 1 ?_ <;> refine AL.nil ?_) | (refine AW.r 1 ?_ <;> refine AL.es 2 ?_ <;> (first | refine AL.d (AOp.call rfl rfl hN) ?_ | refine AL.d (AOp.call rfl rfl hP) ?_) <;> refine AL.es 2 ?_ <;> (first | refine AL.es 5 ?_ | (refine AL.gx (fun hb => ?_) (fun hb => ?_) <;> refine AL.es 5 ?_)) <;> (first | refine AL.es 5 ?_ | (refine AL.gx (fun hb => ?_) (fun hb => ?_) <;> refine AL.es 5 ?_)) <;> (first | refine AL.es 3 ?_ | (refine AL.gx (fun hb => ?_) (fun hb => ?_) <;> refine AL.es 3 ?_)) <;> (first | (refine AL.gd ?_; (first | refine AL.d (AOp.call rfl rfl hN) ?_ | refine AL.d (AOp.call rfl rfl hP) ?_)) | refine AL.gs ?_ | refine AL.gu ?_) <;> refine AL.es 2 ?_ <;> refine AL.nil ?_) | refine AW.re 2 1 ?_ | refine AW.re 3 1 ?_ | refine AW.jt ?_ | refine AW.jf ?_ | refine AW.jj (fun hb => ?_) (fun hb => ?_) | refine AW.go ?_ | fail)
        all_goals try (exfalso; simp only [decide_eq_true_eq, decide_eq_false_iff_not, List.length_map] at *; omega)
        refine AW.prune [0, 3, 5] (AW.loop (fun mz af h => ∃ (i : Nat), i ≤ r.Tuples.length ∧ mz = r.Tuples.length - i ∧ af = [(0, .int .i64 n), (3, .at r.av), (5, .int .i64 i)] ∧ h = [] ∧ (tupGo n r.Arity none r.Tuples = tupGo n r.Arity (if i = 0 then none else r.Tuples[i - 1]?) (r.Tuples.drop i) ∧ ∀ p, 0 < i → r.Tuples[i - 1]? = some p → (p.length : Int) = r.Arity)) r.Tuples.length ⟨0, Nat.zero_le _, rfl, rfl, rfl, ⟨rfl, fun p h => absurd h (by omega)⟩⟩ ?_)
        rintro mz af h ⟨i, hi, rfl, rfl, rfl, he⟩
        refine AW.seq ?_
        by_cases hlt : i < r.Tuples.length
        · obtain ⟨he, hpr⟩ := he
          obtain ⟨x, hx⟩ := get_lt hlt
          have hx' : (r.Tuples.map ints)[((i : Nat) : Int).toNat]? = some (ints x) := map_get hx
          have hxl := hts x (List.mem_of_getElem? hx)
          rw [drop_cons hx, tupGo_cons] at he
          have hnx : tupGo n r.Arity (some x) (r.Tuples.drop (i + 1)) = tupGo n r.Arity (if i + 1 = 0 then none else r.Tuples[i + 1 - 1]?) (r.Tuples.drop (i + 1)) := by simp [hx]
          have hel := ref_InS n x hxl
          have hlen : ((x.map iav).length : Int) = x.length := by simp
          rw [hnx] at he
          by_cases hxa : (x.length : Int) = r.Arity
          · rw [decide_eq_true hxa] at he
            have hpr' : ∀ p, 0 < i + 1 → r.Tuples[i + 1 - 1]? = some p → (p.length : Int) = r.Arity := fun p _ h => by simp only [Nat.add_sub_cancel] at h; rw [hx] at h; injection h with h; rw [← h]; exact hxa
            by_cases h0 : i = 0
            · subst h0
              repeat' (first | refine AW.re 4 5 ?_ | (refine AW.dq 6 ?_ <;> refine AQ.es 3 ?_ <;> refine AQ.p rfl (AOp.index_sl rfl rfl (by omega) hx' (by kernel_rfl) rfl) ?_ <;> refine AQ.es 6 ?_ <;> (first | refine AQ.es 4 ?_ | (refine AQ.x (fun hb => ?_) (fun hb => ?_) <;> refine AQ.es 4 ?_)) <;> (first | refine AQ.gp rfl (AOp.index_sl rfl rfl (by omega) hx' (by kernel_rfl) rfl) ?_ | refine AQ.k ?_) <;> refine AQ.es 1 ?_ <;> (first | refine AQ.gp rfl (AOp.call rfl rfl hel) ?_ | refine AQ.k ?_) <;> refine AQ.es 3 ?_ <;> (first | refine AQ.es 3 ?_ | (refine AQ.x (fun hb => ?_) (fun hb => ?_) <;> refine AQ.es 3 ?_)) <;> (first | refine AQ.es 3 ?_ | (refine AQ.x (fun hb => ?_) (fun hb => ?_) <;> refine AQ.es 3 ?_)) <;> (first | refine AQ.gp rfl AOp.sb ?_ | refine AQ.k ?_) <;> (first | refine AQ.gp rfl (AOp.index_sl rfl rfl (by omega) hx' (by kernel_rfl) rfl) ?_ | refine AQ.k ?_) <;> refine AQ.es 4 ?_ <;> (first | refine AQ.gp rfl (AOp.index_sl rfl rfl (by omega) hx' (by kernel_rfl) rfl) ?_ | refine AQ.k ?_) <;> refine AQ.es 1 ?_ <;> (first | refine AQ.gp rfl (AOp.call rfl rfl hel) ?_ | refine AQ.k ?_) <;> refine AQ.es 3 ?_ <;> refine AQ.nil ?_) | refine AW.re 7 1 ?_ | (refine AW.r 5 ?_ <;> refine AL.es 1 ?_ <;> refine AL.d AOp.ad ?_ <;> refine AL.es 1 ?_ <;> refine AL.nil ?_) | refine AW.jt ?_ | refine AW.jf ?_ | refine AW.jj (fun hb => ?_) (fun hb => ?_) | refine AW.go ?_ | fail)
              all_goals try (exfalso; simp only [decide_eq_true_eq, decide_eq_false_iff_not, List.length_map, bne_iff_ne, ne_eq, bne_eq_false_iff_eq] at *; omega)
              all_goals first
                | (refine AW.retv rfl ⟨retB ?_, rfl⟩; rw [he]; simp_all; done)
                | (refine AW.again_keep (r.Tuples.length - (0 + 1)) [0, 3, 5] (by omega) ⟨0 + 1, hlt, rfl, rfl, rfl, ?_, hpr'⟩; rw [he]; simp_all; done)
            · obtain ⟨p, hp⟩ := get_pred hi (by omega)
              rw [if_neg h0, hp] at he
              simp only at he
              have hp' : (r.Tuples.map ints)[((i : Int) - 1).toNat]? = some (ints p) := by rw [show ((i : Int) - 1).toNat = i - 1 by omega]; exact map_get hp
              have hpl := hts p (List.mem_of_getElem? hp)
              have hpa := hpr p (by omega) hp
              have hls := ref_Less p x (by omega) hpl
              repeat' (first | refine AW.re 4 5 ?_ | (refine AW.dq 6 ?_ <;> refine AQ.es 3 ?_ <;> (first | refine AQ.p rfl (AOp.index_sl rfl rfl (by omega) hx' (by kernel_rfl) rfl) ?_ | refine AQ.p rfl (AOp.index_sl rfl rfl (by omega) hp' (by kernel_rfl) rfl) ?_) <;> refine AQ.es 6 ?_ <;> (first | refine AQ.es 4 ?_ | (refine AQ.x (fun hb => ?_) (fun hb => ?_) <;> refine AQ.es 4 ?_)) <;> (first | refine AQ.gp rfl (AOp.index_sl rfl rfl (by omega) hx' (by kernel_rfl) rfl) ?_ | refine AQ.gp rfl (AOp.index_sl rfl rfl (by omega) hp' (by kernel_rfl) rfl) ?_ | refine AQ.k ?_) <;> refine AQ.es 1 ?_ <;> (first | refine AQ.gp rfl (AOp.call rfl rfl hel) ?_ | refine AQ.gp rfl (AOp.call rfl rfl hls) ?_ | refine AQ.k ?_) <;> refine AQ.es 3 ?_ <;> (first | refine AQ.es 3 ?_ | (refine AQ.x (fun hb => ?_) (fun hb => ?_) <;> refine AQ.es 3 ?_)) <;> (first | refine AQ.es 3 ?_ | (refine AQ.x (fun hb => ?_) (fun hb => ?_) <;> refine AQ.es 3 ?_)) <;> (first | refine AQ.gp rfl AOp.sb ?_ | refine AQ.k ?_) <;> (first | refine AQ.gp rfl (AOp.index_sl rfl rfl (by omega) hx' (by kernel_rfl) rfl) ?_ | refine AQ.gp rfl (AOp.index_sl rfl rfl (by omega) hp' (by kernel_rfl) rfl) ?_ | refine AQ.k ?_) <;> refine AQ.es 4 ?_ <;> (first | refine AQ.gp rfl (AOp.index_sl rfl rfl (by omega) hx' (by kernel_rfl) rfl) ?_ | refine AQ.gp rfl (AOp.index_sl rfl rfl (by omega) hp' (by kernel_rfl) rfl) ?_ | refine AQ.k ?_) <;> refine AQ.es 1 ?_ <;> (first | refine AQ.gp rfl (AOp.call rfl rfl hel) ?_ | refine AQ.gp rfl (AOp.call rfl rfl hls) ?_ | refine AQ.k ?_) <;> refine AQ.es 3 ?_ <;> refine AQ.nil ?_) | refine AW.re 7 1 ?_ | (refine AW.r 5 ?_ <;> refine AL.es 1 ?_ <;> refine AL.d AOp.ad ?_ <;> refine AL.es 1 ?_ <;> refine AL.nil ?_) | refine AW.jt ?_ | refine AW.jf ?_ | refine AW.jj (fun hb => ?_) (fun hb => ?_) | refine AW.go ?_ | fail)
              all_goals try (exfalso; simp only [decide_eq_true_eq, decide_eq_false_iff_not, List.length_map, bne_iff_ne, ne_eq, bne_eq_false_iff_eq] at *; omega)
              all_goals clear hel hls hP hN
              all_goals first
                | (refine AW.retv rfl ⟨retB ?_, rfl⟩; rw [he]; clear he hnx hpr hpr' hp hx hp' hx' hdef; simp_all; try (intros; omega))
                | (refine AW.again_keep (r.Tuples.length - (i + 1)) [0, 3, 5] (by omega) ⟨i + 1, hlt, rfl, rfl, rfl, ?_, hpr'⟩; rw [he]; clear he hnx hpr hpr' hp hx hp' hx' hdef; simp_all; done)
          · rw [decide_eq_false hxa] at he
            repeat' (first | refine AW.re 4 5 ?_ | refine AW.jt ?_ | refine AW.jf ?_ | refine AW.jj (fun hb => ?_) (fun hb => ?_) | refine AW.go ?_ | fail)
            all_goals try (exfalso; simp only [decide_eq_true_eq, decide_eq_false_iff_not, List.length_map] at *; omega)
            repeat' (first | (refine AW.dq 6 ?_ <;> refine AQ.es 3 ?_ <;> (first | ((exfalso; simp only [decide_eq_true_eq, decide_eq_false_iff_not, List.length_map, bne_iff_ne, ne_eq, bne_eq_false_iff_eq, beq_iff_eq, beq_eq_false_iff_ne] at *; omega)) | refine AQ.p rfl (AOp.index_sl rfl rfl (by omega) hx' (by kernel_rfl) rfl) ?_) <;> refine AQ.es 6 ?_ <;> (first | refine AQ.es 4 ?_ | (refine AQ.x (fun hb => ?_) (fun hb => ?_) <;> refine AQ.es 4 ?_)) <;> (first | (exfalso; simp only [decide_eq_true_eq, decide_eq_false_iff_not, List.length_map, bne_iff_ne, ne_eq, bne_eq_false_iff_eq, beq_iff_eq, beq_eq_false_iff_ne] at *; omega) | refine AQ.gp rfl (AOp.index_sl rfl rfl (by omega) hx' (by kernel_rfl) rfl) ?_ | refine AQ.k ?_) <;> refine AQ.es 1 ?_ <;> (first | (exfalso; simp only [decide_eq_true_eq, decide_eq_false_iff_not, List.length_map, bne_iff_ne, ne_eq, bne_eq_false_iff_eq, beq_iff_eq, beq_eq_false_iff_ne] at *; omega) | refine AQ.k ?_) <;> refine AQ.es 3 ?_ <;> (first | refine AQ.es 3 ?_ | (refine AQ.x (fun hb => ?_) (fun hb => ?_) <;> refine AQ.es 3 ?_)) <;> (first | refine AQ.es 3 ?_ | (refine AQ.x (fun hb => ?_) (fun hb => ?_) <;> refine AQ.es 3 ?_)) <;> (first | refine AQ.gp rfl AOp.sb ?_ | refine AQ.k ?_) <;> (first | (exfalso; simp only [decide_eq_true_eq, decide_eq_false_iff_not, List.length_map, bne_iff_ne, ne_eq, bne_eq_false_iff_eq, beq_iff_eq, beq_eq_false_iff_ne] at *; omega) | refine AQ.gp rfl (AOp.index_sl rfl rfl (by omega) hx' (by kernel_rfl) rfl) ?_ | refine AQ.k ?_) <;> refine AQ.es 4 ?_ <;> (first | (exfalso; simp only [decide_eq_true_eq, decide_eq_false_iff_not, List.length_map, bne_iff_ne, ne_eq, bne_eq_false_iff_eq, beq_iff_eq, beq_eq_false_iff_ne] at *; omega) | refine AQ.gp rfl (AOp.index_sl rfl rfl (by omega) hx' (by kernel_rfl) rfl) ?_ | refine AQ.k ?_) <;> refine AQ.es 1 ?_ <;> (first | (exfalso; simp only [decide_eq_true_eq, decide_eq_false_iff_not, List.length_map, bne_iff_ne, ne_eq, bne_eq_false_iff_eq, beq_iff_eq, beq_eq_false_iff_ne] at *; omega) | refine AQ.k ?_) <;> refine AQ.es 3 ?_ <;> refine AQ.nil ?_) | refine AW.re 7 1 ?_ | refine AW.jt ?_ | refine AW.jf ?_ | refine AW.jj (fun hb => ?_) (fun hb => ?_) | refine AW.go ?_ | fail)
            all_goals try (exfalso; simp only [decide_eq_true_eq, decide_eq_false_iff_not, List.length_map, bne_iff_ne, ne_eq, bne_eq_false_iff_eq] at *; omega)
            all_goals exact AW.retv rfl ⟨by rw [he]; rfl, rfl⟩
        · obtain ⟨he, _⟩ := he
          rw [List.drop_eq_nil_of_le (by omega), tupGo_nil] at he
          repeat' (first | refine AW.re 4 5 ?_ | refine AW.re 8 1 ?_ | refine AW.jt ?_ | refine AW.jf ?_ | refine AW.jj (fun hb => ?_) (fun hb => ?_) | refine AW.go ?_ | fail)
          all_goals try (exfalso; simp only [decide_eq_true_eq, decide_eq_false_iff_not, List.length_map] at *; omega)
          exact AW.retv rfl ⟨by rw [he]; rfl, rfl⟩
    · rw [decide_eq_false (by omega)]
      have hz : (b1 && (true && true) && false && tupGo n r.Arity none r.Tuples) = false := by simp
      rw [hz]
      refine Tri.enter 72 Tryz.func88 rfl rfl rfl rfl fun Fr w0 => ?_
      repeat' (first | (refine AW.r 0 ?_ <;> (first | refine AL.d (AOp.box_ro rfl rfl) ?_ | refine AL.d (AOp.box_ro rfl rfl) ?_) <;> refine AL.es 1 ?_ <;> refine AL.nil ?_) | (refine AW.r 1 ?_ <;> refine AL.es 2 ?_ <;> (first | refine AL.d (AOp.call rfl rfl hN) ?_ | refine AL.d (AOp.call rfl rfl hP) ?_) <;> refine AL.es 2 ?_ <;> (first | refine AL.es 5 ?_ | (refine AL.gx (fun hb => ?_) (fun hb => ?_) <;> refine AL.es 5 ?_)) <;> (first | refine AL.es 5 ?_ | (refine AL.gx (fun hb => ?_) (fun hb => ?_) <;> refine AL.es 5 ?_)) <;> (first | refine AL.es 3 ?_ | (refine AL.gx (fun hb => ?_) (fun hb => ?_) <;> refine AL.es 3 ?_)) <;> (first | (refine AL.gd ?_; (first | refine AL.d (AOp.call rfl rfl hN) ?_ | refine AL.d (AOp.call rfl rfl hP) ?_)) | refine AL.gs ?_ | refine AL.gu ?_) <;> refine AL.es 2 ?_ <;> refine AL.nil ?_) | refine AW.re 2 1 ?_ | refine AW.re 3 1 ?_ | refine AW.jt ?_ | refine AW.jf ?_ | refine AW.jj (fun hb => ?_) (fun hb => ?_) | refine AW.go ?_ | fail)
      all_goals try (exfalso; simp only [decide_eq_true_eq, decide_eq_false_iff_not, List.length_map] at *; omega)
      all_goals exact AW.retv rfl ⟨rfl, rfl⟩
  · have hz : (b1 && (decide (0 ≤ r.Arity) && decide (r.Arity ≤ 12)) && decide (0 ≤ powGo n r.Arity.toNat 1) && tupGo n r.Arity none r.Tuples) = false := by
      rw [show (decide (0 ≤ r.Arity) && decide (r.Arity ≤ 12)) = false by rw [Bool.and_eq_false_iff, decide_eq_false_iff_not, decide_eq_false_iff_not]; omega]
      simp
    rw [hz]
    refine Tri.enter 72 Tryz.func88 rfl rfl rfl rfl fun Fr w0 => ?_
    repeat' (first | (refine AW.r 0 ?_ <;> (first | refine AL.d (AOp.box_ro rfl rfl) ?_ | refine AL.d (AOp.box_ro rfl rfl) ?_) <;> refine AL.es 1 ?_ <;> refine AL.nil ?_) | (refine AW.r 1 ?_ <;> refine AL.es 2 ?_ <;> (first | refine AL.d (AOp.call rfl rfl hN) ?_ | (refine AL.d (AOp.call rfl rfl (hP (by simp only [decide_eq_true_eq, decide_eq_false_iff_not] at *; omega))) ?_)) <;> refine AL.es 2 ?_ <;> (first | refine AL.es 5 ?_ | (refine AL.gx (fun hb => ?_) (fun hb => ?_) <;> refine AL.es 5 ?_)) <;> (first | refine AL.es 5 ?_ | (refine AL.gx (fun hb => ?_) (fun hb => ?_) <;> refine AL.es 5 ?_)) <;> (first | refine AL.es 3 ?_ | (refine AL.gx (fun hb => ?_) (fun hb => ?_) <;> refine AL.es 3 ?_)) <;> (first | (refine AL.gd ?_; (first | refine AL.d (AOp.call rfl rfl hN) ?_ | (refine AL.d (AOp.call rfl rfl (hP (by simp only [decide_eq_true_eq, decide_eq_false_iff_not] at *; omega))) ?_))) | refine AL.gs ?_ | refine AL.gu ?_) <;> refine AL.es 2 ?_ <;> refine AL.nil ?_) | refine AW.re 2 1 ?_ | refine AW.re 3 1 ?_ | refine AW.jt ?_ | refine AW.jf ?_ | refine AW.jj (fun hb => ?_) (fun hb => ?_) | refine AW.go ?_ | fail)
    all_goals try (exfalso; simp only [decide_eq_true_eq, decide_eq_false_iff_not, List.length_map] at *; omega)
    all_goals exact AW.retv rfl ⟨rfl, rfl⟩
theorem ref_ValidS (s : GStr) (hs : s.Ok) : Tri Tryz.prog 32 [s.av] [] (D (.bool (validStr s)) []) := by
  have hlen : ((s.Rels.map GRel.av).length : Int) = s.Rels.length := by simp
  obtain ⟨hs1, hs2, hs3⟩ := hs
  by_cases hg : 1 ≤ s.Size ∧ s.Size ≤ 64 ∧ s.Rels.length ≤ 8
  · have hv : validStr s = relsGo s.Size s.Rels 0 s.Rels := by simp [validStr, hg.1, hg.2.1, hg.2.2]
    rw [hv]
    refine Tri.enter 53 Tryz.func32 rfl rfl rfl rfl fun Fr w0 => ?_
    repeat' (first | (refine AW.r 0 ?_ <;> (first | refine AL.d (AOp.box_ro rfl rfl) ?_ | refine AL.d (AOp.box_ro rfl rfl) ?_) <;> refine AL.es 1 ?_ <;> refine AL.nil ?_) | (refine AW.r 1 ?_ <;> refine AL.es 4 ?_ <;> (first | refine AL.es 5 ?_ | (refine AL.gx (fun hb => ?_) (fun hb => ?_) <;> refine AL.es 5 ?_)) <;> (first | refine AL.es 5 ?_ | (refine AL.gx (fun hb => ?_) (fun hb => ?_) <;> refine AL.es 5 ?_)) <;> refine AL.nil ?_) | refine AW.re 2 1 ?_ | refine AW.re 3 1 ?_ | refine AW.jt ?_ | refine AW.jf ?_ | refine AW.jj (fun hb => ?_) (fun hb => ?_) | refine AW.go ?_ | fail)
    all_goals try (exfalso; simp only [decide_eq_true_eq, decide_eq_false_iff_not, List.length_map] at *; omega)
    refine AW.prune [1, 3] (AW.loop (fun mz af h => ∃ (i : Nat), i ≤ s.Rels.length ∧ mz = s.Rels.length - i ∧ af = [(1, .at s.av), (3, .int .i64 i)] ∧ h = [] ∧ relsGo s.Size s.Rels 0 s.Rels = relsGo s.Size s.Rels i (s.Rels.drop i)) s.Rels.length ⟨0, Nat.zero_le _, rfl, rfl, rfl, rfl⟩ ?_)
    rintro mz af h ⟨i, hi, rfl, rfl, rfl, he⟩
    refine AW.seq ?_
    by_cases hlt : i < s.Rels.length
    · obtain ⟨r, hx⟩ := get_lt hlt
      have hx' : (s.Rels.map GRel.av)[((i : Nat) : Int).toNat]? = some r.av := map_get hx
      have hr := ref_rel s.Size ⟨hg.1, hg.2.1⟩ r (hs3 r (List.mem_of_getElem? hx))
      rw [drop_cons hx, relsGo] at he
      cases hrb : relB s.Size r with
      | false =>
        rw [hrb] at he hr
        repeat' (first | refine AW.re 4 5 ?_ | (refine AW.dq 6 ?_ <;> refine AQ.es 5 ?_ <;> refine AQ.p rfl (AOp.index_sl rfl rfl (by omega) hx' (by kernel_rfl) rfl) ?_ <;> refine AQ.es 1 ?_ <;> refine AQ.p rfl (AOp.call rfl rfl hr) ?_ <;> refine AQ.es 1 ?_ <;> refine AQ.nil ?_) | refine AW.re 7 1 ?_ | refine AW.jt ?_ | refine AW.jf ?_ | refine AW.jj (fun hb => ?_) (fun hb => ?_) | refine AW.go ?_ | fail)
        all_goals try (exfalso; simp only [decide_eq_true_eq, decide_eq_false_iff_not, List.length_map] at *; omega)
        exact AW.retv rfl ⟨by rw [he]; rfl, rfl⟩
      | true =>
        rw [hrb, Bool.true_and] at he
        rw [hrb] at hr
        repeat' (first | refine AW.re 4 5 ?_ | (refine AW.dq 6 ?_ <;> refine AQ.es 5 ?_ <;> refine AQ.p rfl (AOp.index_sl rfl rfl (by omega) hx' (by kernel_rfl) rfl) ?_ <;> refine AQ.es 1 ?_ <;> refine AQ.p rfl (AOp.call rfl rfl hr) ?_ <;> refine AQ.es 1 ?_ <;> refine AQ.nil ?_) | refine AW.re 8 1 ?_ | refine AW.jt ?_ | refine AW.jf ?_ | refine AW.jj (fun hb => ?_) (fun hb => ?_) | refine AW.go ?_ | fail)
        all_goals try (exfalso; simp only [decide_eq_true_eq, decide_eq_false_iff_not, List.length_map] at *; omega)
        refine AW.prune [1, 3, 4] (AW.loop (fun m af h => ∃ k : Nat, k ≤ i ∧ m = i - k ∧ af = [(1, .at s.av), (3, .int .i64 i), (4, .int .i64 k)] ∧ h = [] ∧ ((s.Rels.take i).any fun q => decide (q.Name = r.Name)) = (((s.Rels.take i).drop k).any fun q => decide (q.Name = r.Name))) i ⟨0, Nat.zero_le _, rfl, rfl, rfl, rfl⟩ ?_)
        rintro m af h ⟨k, hk, rfl, rfl, rfl, hq⟩
        refine AW.seq ?_
        by_cases hkt : k < i
        · obtain ⟨q, hq'⟩ := get_lt (show k < (s.Rels.take i).length by rw [List.length_take]; omega)
          have hqa : s.Rels[k]? = some q := by rw [List.getElem?_take, if_pos hkt] at hq'; exact hq'
          have hqx : (s.Rels.map GRel.av)[((k : Nat) : Int).toNat]? = some q.av := map_get hqa
          rw [drop_cons hq', List.any_cons] at hq
          repeat' (first | refine AW.re 9 3 ?_ | (refine AW.dq 11 ?_ <;> refine AQ.es 3 ?_ <;> (first | refine AQ.p rfl (AOp.index_sl rfl rfl (by omega) hx' (by kernel_rfl) rfl) ?_ | refine AQ.p rfl (AOp.index_sl rfl rfl (by omega) hqx (by kernel_rfl) rfl) ?_) <;> refine AQ.es 5 ?_ <;> (first | refine AQ.p rfl (AOp.index_sl rfl rfl (by omega) hx' (by kernel_rfl) rfl) ?_ | refine AQ.p rfl (AOp.index_sl rfl rfl (by omega) hqx (by kernel_rfl) rfl) ?_) <;> refine AQ.es 3 ?_ <;> refine AQ.nil ?_) | refine AW.re 12 1 ?_ | (refine AW.r 10 ?_ <;> refine AL.es 1 ?_ <;> refine AL.d AOp.ad ?_ <;> refine AL.es 1 ?_ <;> refine AL.nil ?_) | refine AW.jt ?_ | refine AW.jf ?_ | refine AW.jj (fun hb => ?_) (fun hb => ?_) | refine AW.go ?_ | fail)
          all_goals try (exfalso; simp only [decide_eq_true_eq, decide_eq_false_iff_not, List.length_map] at *; omega)
          all_goals rw [toList_beq] at hb
          · refine AW.retv rfl ⟨?_, rfl⟩
            rw [he, hq, hb]; rfl
          · refine AW.again_keep (i - (k + 1)) [1, 3, 4] (by omega) ⟨k + 1, hkt, rfl, rfl, rfl, ?_⟩
            rw [hq, hb]; rfl
        · rw [List.drop_eq_nil_of_le (by rw [List.length_take]; omega)] at hq
          repeat' (first | refine AW.re 9 3 ?_ | (refine AW.r 5 ?_ <;> refine AL.es 1 ?_ <;> refine AL.d AOp.ad ?_ <;> refine AL.es 1 ?_ <;> refine AL.nil ?_) | refine AW.jt ?_ | refine AW.jf ?_ | refine AW.jj (fun hb => ?_) (fun hb => ?_) | refine AW.go ?_ | fail)
          all_goals try (exfalso; simp only [decide_eq_true_eq, decide_eq_false_iff_not, List.length_map] at *; omega)
          refine AW.again_keep (s.Rels.length - (i + 1)) [1, 3] (by omega) ⟨i + 1, hlt, rfl, rfl, rfl, ?_⟩
          rw [he, hq]; rfl
    · rw [List.drop_eq_nil_of_le (by omega), relsGo] at he
      repeat' (first | refine AW.re 4 5 ?_ | refine AW.re 13 1 ?_ | refine AW.jt ?_ | refine AW.jf ?_ | refine AW.jj (fun hb => ?_) (fun hb => ?_) | refine AW.go ?_ | fail)
      all_goals try (exfalso; simp only [decide_eq_true_eq, decide_eq_false_iff_not, List.length_map] at *; omega)
      exact AW.retv rfl ⟨by rw [he]; rfl, rfl⟩
  · have hv : validStr s = false := by
      simp only [validStr, Bool.and_eq_false_iff, decide_eq_false_iff_not]; omega
    rw [hv]
    refine Tri.enter 53 Tryz.func32 rfl rfl rfl rfl fun Fr w0 => ?_
    repeat' (first | (refine AW.r 0 ?_ <;> (first | refine AL.d (AOp.box_ro rfl rfl) ?_ | refine AL.d (AOp.box_ro rfl rfl) ?_) <;> refine AL.es 1 ?_ <;> refine AL.nil ?_) | (refine AW.r 1 ?_ <;> refine AL.es 4 ?_ <;> (first | refine AL.es 5 ?_ | (refine AL.gx (fun hb => ?_) (fun hb => ?_) <;> refine AL.es 5 ?_)) <;> (first | refine AL.es 5 ?_ | (refine AL.gx (fun hb => ?_) (fun hb => ?_) <;> refine AL.es 5 ?_)) <;> refine AL.nil ?_) | refine AW.re 2 1 ?_ | refine AW.re 3 1 ?_ | refine AW.jt ?_ | refine AW.jf ?_ | refine AW.jj (fun hb => ?_) (fun hb => ?_) | refine AW.go ?_ | fail)
    all_goals try (exfalso; simp only [decide_eq_true_eq, decide_eq_false_iff_not, List.length_map] at *; omega)
    all_goals exact AW.retv rfl ⟨rfl, rfl⟩
end Go.Proofs.YtdedkpfbfklgbaaGreat
namespace Go.Proofs.YtdedkpfbfklgbaaGreat
open Go.RowKit Go.SX
set_option maxRecDepth 100000
set_option maxHeartbeats 4000000
set_option linter.unusedVariables false
set_option linter.unusedSimpArgs false
theorem ref_Among (l : List ByteArray) (s : ByteArray) (hl : l.length ≤ 4611686018427387904) : Tri Tryz.prog 122 [strs l, .str s] [] (D (.bool (l.any fun x => decide (x = s))) []) := by
  refine Tri.enter 18 Tryz.func122 rfl rfl rfl rfl fun Fr w0 => ?_
  repeat' (first | refine AW.re 0 1 ?_ | refine AW.re 1 1 ?_ | refine AW.jt ?_ | refine AW.jf ?_ | refine AW.jj (fun hb => ?_) (fun hb => ?_) | refine AW.go ?_ | fail)
  refine AW.prune [0, 1, 5] (AW.loop (fun mz af h => ∃ (i : Nat), i ≤ l.length ∧ mz = l.length - i ∧ af = [(0, strs l), (1, .str s), (5, .int .i64 i)] ∧ h = [] ∧ (l.any fun x => decide (x = s)) = ((l.drop i).any fun x => decide (x = s))) l.length ⟨0, Nat.zero_le _, rfl, rfl, rfl, rfl⟩ ?_)
  rintro mz af h ⟨i, hi, rfl, rfl, rfl, he⟩
  refine AW.seq ?_
  by_cases hlt : i < l.length
  · obtain ⟨x, hx⟩ := get_lt hlt
    have hx' : (l.map AV.str)[((i : Nat) : Int).toNat]? = some (.str x) := map_get hx
    rw [drop_cons hx, List.any_cons] at he
    repeat' (first | refine AW.re 2 4 ?_ | (refine AW.r 4 ?_ <;> refine AL.es 2 ?_ <;> refine AL.d (AOp.index_sl rfl rfl (by omega) hx' (by kernel_rfl) rfl) ?_ <;> refine AL.es 3 ?_ <;> refine AL.nil ?_) | refine AW.re 5 1 ?_ | (refine AW.r 3 ?_ <;> refine AL.es 1 ?_ <;> refine AL.d AOp.ad ?_ <;> refine AL.es 1 ?_ <;> refine AL.nil ?_) | refine AW.jt ?_ | refine AW.jf ?_ | refine AW.jj (fun hb => ?_) (fun hb => ?_) | refine AW.go ?_ | fail)
    all_goals try (exfalso; simp only [decide_eq_true_eq, decide_eq_false_iff_not, List.length_map] at *; omega)
    all_goals rw [toList_beq] at hb
    · exact AW.retv rfl ⟨by rw [he, hb]; rfl, rfl⟩
    · refine AW.again_keep (l.length - (i + 1)) [0, 1, 5] (by omega) ⟨i + 1, hlt, rfl, rfl, rfl, ?_⟩
      rw [he, hb]; rfl
  · rw [List.drop_eq_nil_of_le (by omega)] at he
    repeat' (first | refine AW.re 2 4 ?_ | refine AW.re 6 1 ?_ | refine AW.jt ?_ | refine AW.jf ?_ | refine AW.jj (fun hb => ?_) (fun hb => ?_) | refine AW.go ?_ | fail)
    all_goals try (exfalso; simp only [decide_eq_true_eq, decide_eq_false_iff_not, List.length_map] at *; omega)
    exact AW.retv rfl ⟨by rw [he]; rfl, rfl⟩
def lessB (s t : ByteArray) : Bool := Op.bytesLess s.toList t.toList
def risP : List ByteArray → ByteArray → List ByteArray
  | [], s => [s]
  | x :: l, s => if lessB x s = true then x :: risP l s else if x = s then x :: l else s :: x :: l
theorem risP_len : ∀ (l : List ByteArray) (s : ByteArray), (risP l s).length ≤ l.length + 1
  | [], s => by simp [risP]
  | x :: l, s => by
    have := risP_len l s
    rw [risP]; split
    · simp; omega
    · split <;> simp
theorem risP_mem : ∀ (l : List ByteArray) (s x : ByteArray), x ∈ risP l s ↔ x = s ∨ x ∈ l
  | [], s, x => by simp [risP]
  | y :: l, s, x => by
    have := risP_mem l s x
    rw [risP]; split
    · simp only [List.mem_cons, this]; constructor
      · rintro (h | h | h) <;> simp [h]
      · rintro (h | h | h) <;> simp [h]
    · split
      · rename_i h; subst h; simp
      · simp
theorem str_sz (l : List ByteArray) : ∀ x ∈ l.map AV.str, x.size = 1 := all_map fun _ => rfl
theorem ref_rising (l : List ByteArray) (s : ByteArray) (hl : l.length ≤ 1000000) : Tri Tryz.prog 123 [strs l, .str s] [] (D (strs (risP l s)) []) := by
  refine Tri.enter 45 Tryz.func123 rfl rfl rfl rfl fun Fr w0 => ?_
  repeat' (first | refine AW.re 0 1 ?_ | refine AW.re 1 1 ?_ | refine AW.jt ?_ | refine AW.jf ?_ | refine AW.jj (fun hb => ?_) (fun hb => ?_) | refine AW.go ?_ | fail)
  refine AW.prune [0, 1, 5] (AW.loop (fun mz af h => ∃ (i : Nat), i ≤ l.length ∧ mz = l.length - i ∧ af = [(0, strs l), (1, .str s), (5, .int .i64 i)] ∧ h = [] ∧ risP l s = l.take i ++ risP (l.drop i) s) l.length ⟨0, Nat.zero_le _, rfl, rfl, rfl, rfl⟩ ?_)
  rintro mz af h ⟨i, hi, rfl, rfl, rfl, he⟩
  refine AW.seq ?_
  by_cases hlt : i < l.length
  · obtain ⟨x, hx⟩ := get_lt hlt
    have hx' : (l.map AV.str)[((i : Nat) : Int).toNat]? = some (.str x) := map_get hx
    have htk : l.take (i + 1) = l.take i ++ [x] := by rw [List.take_add_one, hx]; rfl
    rw [drop_cons hx, risP] at he
    change risP l s = l.take i ++ if Op.bytesLess x.toList s.toList = true then x :: risP (l.drop (i + 1)) s else if x = s then x :: l.drop (i + 1) else s :: x :: l.drop (i + 1) at he
    repeat' (first | (refine AW.r 2 ?_ <;> refine AL.es 5 ?_ <;> (first | refine AL.es 2 ?_ | (refine AL.gx (fun hb => ?_) (fun hb => ?_) <;> refine AL.es 2 ?_)) <;> (first | (refine AL.gd ?_; refine AL.d (AOp.index_sl rfl rfl (by omega) hx' (by kernel_rfl) rfl) ?_) | refine AL.gs ?_ | refine AL.gu ?_) <;> refine AL.es 4 ?_ <;> refine AL.nil ?_) | (refine AW.r 3 ?_ <;> refine AL.es 1 ?_ <;> refine AL.d AOp.ad ?_ <;> refine AL.es 1 ?_ <;> refine AL.nil ?_) | (refine AW.r 4 ?_ <;> refine AL.es 5 ?_ <;> (first | refine AL.es 2 ?_ | (refine AL.gx (fun hb => ?_) (fun hb => ?_) <;> refine AL.es 2 ?_)) <;> (first | (refine AL.gd ?_; refine AL.d (AOp.index_sl rfl rfl (by omega) hx' (by kernel_rfl) rfl) ?_) | refine AL.gs ?_ | refine AL.gu ?_) <;> refine AL.es 4 ?_ <;> refine AL.nil ?_) | refine AW.re 5 2 ?_ | refine AW.jt ?_ | refine AW.jf ?_ | refine AW.jj (fun hb => ?_) (fun hb => ?_) | refine AW.go ?_ | fail)
    all_goals try (exfalso; simp only [decide_eq_true_eq, decide_eq_false_iff_not, List.length_map] at *; omega)
    · refine AW.again_keep (l.length - (i + 1)) [0, 1, 5] (by omega) ⟨i + 1, hlt, rfl, rfl, rfl, ?_⟩
      rw [he, if_pos hb, htk]; simp
    · rename_i h1 _
      rw [toList_beq, decide_eq_true_eq] at hb
      rw [if_neg (by rw [h1]; simp), if_pos hb, ← drop_cons hx, List.take_append_drop] at he
      exact AW.retv rfl ⟨by rw [he], rfl⟩
    · rename_i h1 _
      rw [toList_beq, decide_eq_false_iff_not] at hb
      rw [if_neg (by rw [h1]; simp), if_neg hb] at he
      repeat' (first | (refine AW.ex 6 [] [0, 4, 7, 11, 12] ?_ <;> refine AQE.hl ?_ <;> refine AQE.e ?_ <;> refine AQE.e ?_ <;> (first | (refine AQE.p rfl (AOp.cut (sz := 1) rfl rfl (by kernel_rfl) (str_sz _) bndIs.none (bndIs.some (n := i) rfl (by omega)) (by omega) (by simp; omega)) ?_) | (refine AQE.p rfl (AOp.cut (sz := 1) rfl rfl (by kernel_rfl) (str_sz _) (bndIs.some (n := i) rfl (by omega)) bndIs.none (by simp; omega) (by omega)) ?_)) <;> refine AQE.hl ?_ <;> refine AQE.e ?_ <;> refine AQE.p rfl (AOp.lit (e := 9) (sz := 1) (by kernel_rfl) rfl rfl rfl (P_one rfl) (by decide)) ?_ <;> refine AQE.hl ?_ <;> refine AQE.e ?_ <;> refine AQE.e ?_ <;> (first | (refine AQE.p rfl (AOp.cut (sz := 1) rfl rfl (by kernel_rfl) (str_sz _) bndIs.none (bndIs.some (n := i) rfl (by omega)) (by omega) (by simp; omega)) ?_) | (refine AQE.p rfl (AOp.cut (sz := 1) rfl rfl (by kernel_rfl) (str_sz _) (bndIs.some (n := i) rfl (by omega)) bndIs.none (by simp; omega) (by omega)) ?_)) <;> refine AQE.hl ?_ <;> refine AQE.hl ?_ <;> refine AQE.nil ?_ <;> refine AX.o (n := 4) 0 ?_ <;> (first | refine AXO.lit_own (e := 9) (sz := 1) (by kernel_rfl) rfl rfl rfl P_nil (by decide) fun b0 => ?_ | refine AXO.d (AOp.lit (e := 9) (sz := 1) (by kernel_rfl) rfl rfl rfl (P_one rfl) (by decide)) ?_) <;> try dsimp only [List.set_cons_succ, List.set_cons_zero, List.getD_cons_succ, List.getD_cons_zero] <;> refine AX.o (n := 3) 4 ?_ <;> refine AXO.append (i := 0) (e := 9) (sz := 1) (bytes := 16) rfl rfl rfl rfl (by kernel_rfl) (by kernel_rfl) (by repeat' (first | exact P_nil | refine P_app ?_ ?_ | refine P_take ?_ | refine P_drop ?_ | exact P_map fun _ => rfl | exact P_one rfl | exact P_rep rfl)) (by repeat' (first | exact P_nil | refine P_app ?_ ?_ | refine P_take ?_ | refine P_drop ?_ | exact P_map fun _ => rfl | exact P_one rfl | exact P_rep rfl)) (ok_all (by repeat' (first | exact P_nil | refine P_app ?_ ?_ | refine P_take ?_ | refine P_drop ?_ | exact P_map fun _ => rfl | exact P_one rfl | exact P_rep rfl))) (by (try simp only [List.length_append, List.length_map, List.length_take, List.length_drop, List.length_cons, List.length_nil, List.length_replicate]); omega) (by (try simp only [List.length_append, List.length_map, List.length_take, List.length_drop, List.length_cons, List.length_nil, List.length_replicate]); omega) rfl fun b' c' => ?_ <;> try dsimp only [List.set_cons_succ, List.set_cons_zero, List.getD_cons_succ, List.getD_cons_zero] <;> refine AX.o (n := 2) 7 ?_ <;> refine AXO.append (i := 0) (e := 9) (sz := 1) (bytes := 16) rfl rfl rfl rfl (by kernel_rfl) (by kernel_rfl) (by repeat' (first | exact P_nil | refine P_app ?_ ?_ | refine P_take ?_ | refine P_drop ?_ | exact P_map fun _ => rfl | exact P_one rfl | exact P_rep rfl)) (by repeat' (first | exact P_nil | refine P_app ?_ ?_ | refine P_take ?_ | refine P_drop ?_ | exact P_map fun _ => rfl | exact P_one rfl | exact P_rep rfl)) (ok_all (by repeat' (first | exact P_nil | refine P_app ?_ ?_ | refine P_take ?_ | refine P_drop ?_ | exact P_map fun _ => rfl | exact P_one rfl | exact P_rep rfl))) (by (try simp only [List.length_append, List.length_map, List.length_take, List.length_drop, List.length_cons, List.length_nil, List.length_replicate]); omega) (by (try simp only [List.length_append, List.length_map, List.length_take, List.length_drop, List.length_cons, List.length_nil, List.length_replicate]); omega) rfl fun b' c' => ?_ <;> try dsimp only [List.set_cons_succ, List.set_cons_zero, List.getD_cons_succ, List.getD_cons_zero] <;> refine AX.o (n := 1) 11 ?_ <;> refine AXO.append (i := 0) (e := 9) (sz := 1) (bytes := 16) rfl rfl rfl rfl (by kernel_rfl) (by kernel_rfl) (by repeat' (first | exact P_nil | refine P_app ?_ ?_ | refine P_take ?_ | refine P_drop ?_ | exact P_map fun _ => rfl | exact P_one rfl | exact P_rep rfl)) (by repeat' (first | exact P_nil | refine P_app ?_ ?_ | refine P_take ?_ | refine P_drop ?_ | exact P_map fun _ => rfl | exact P_one rfl | exact P_rep rfl)) (ok_all (by repeat' (first | exact P_nil | refine P_app ?_ ?_ | refine P_take ?_ | refine P_drop ?_ | exact P_map fun _ => rfl | exact P_one rfl | exact P_rep rfl))) (by (try simp only [List.length_append, List.length_map, List.length_take, List.length_drop, List.length_cons, List.length_nil, List.length_replicate]); omega) (by (try simp only [List.length_append, List.length_map, List.length_take, List.length_drop, List.length_cons, List.length_nil, List.length_replicate]); omega) rfl fun b' c' => ?_ <;> try dsimp only [List.set_cons_succ, List.set_cons_zero, List.getD_cons_succ, List.getD_cons_zero] <;> refine AX.o (n := 0) 12 ?_ <;> refine AXO.e ?_ <;> try dsimp only [List.set_cons_succ, List.set_cons_zero, List.getD_cons_succ, List.getD_cons_zero] <;> refine AX.done_keep [0, 1, 4, 5, 6, 7, 8, 9, 10, 11, 12, 13, 14, 15, 16, 17, 18, 19, 20, 21, 22, 23, 24, 25, 26, 27, 28, 29, 30, 31, 32] ?_) | refine AW.jt ?_ | refine AW.jf ?_ | refine AW.jj (fun hb => ?_) (fun hb => ?_) | refine AW.go ?_ | fail)
      refine AW.as_sl 4 rfl ?_
      refine AW.ret_drop rfl (List.nil_sublist _) ⟨?_, rfl⟩
      rw [he]
      show AEnd.ret (AV.sl _) = AEnd.ret (AV.sl _)
      congr 2
      rw [← drop_cons hx, List.take_of_length_le (show (l.map AV.str).length ≤ (l.map AV.str).length from Nat.le_refl _)]
      simp [List.map_take, List.map_drop]
  · rw [List.drop_eq_nil_of_le (by omega), risP] at he
    repeat' (first | (refine AW.r 2 ?_ <;> refine AL.es 5 ?_ <;> (first | refine AL.es 2 ?_ | (refine AL.gx (fun hb => ?_) (fun hb => ?_) <;> refine AL.es 2 ?_)) <;> (first | (refine AL.gd ?_; (exfalso; simp only [decide_eq_true_eq, decide_eq_false_iff_not, List.length_map, bne_iff_ne, ne_eq, bne_eq_false_iff_eq, beq_iff_eq, beq_eq_false_iff_ne] at *; omega)) | refine AL.gs ?_ | refine AL.gu ?_) <;> refine AL.es 4 ?_ <;> refine AL.nil ?_) | (refine AW.r 4 ?_ <;> refine AL.es 5 ?_ <;> (first | refine AL.es 2 ?_ | (refine AL.gx (fun hb => ?_) (fun hb => ?_) <;> refine AL.es 2 ?_)) <;> (first | (refine AL.gd ?_; (exfalso; simp only [decide_eq_true_eq, decide_eq_false_iff_not, List.length_map, bne_iff_ne, ne_eq, bne_eq_false_iff_eq, beq_iff_eq, beq_eq_false_iff_ne] at *; omega)) | refine AL.gs ?_ | refine AL.gu ?_) <;> refine AL.es 4 ?_ <;> refine AL.nil ?_) | refine AW.jt ?_ | refine AW.jf ?_ | refine AW.jj (fun hb => ?_) (fun hb => ?_) | refine AW.go ?_ | fail)
    all_goals try (exfalso; simp only [decide_eq_true_eq, decide_eq_false_iff_not, List.length_map] at *; omega)
    repeat' (first | (refine AW.ex 6 [] [0, 4, 7, 11, 12] ?_ <;> refine AQE.hl ?_ <;> refine AQE.e ?_ <;> refine AQE.e ?_ <;> (first | (refine AQE.p rfl (AOp.cut (sz := 1) rfl rfl (by kernel_rfl) (str_sz _) bndIs.none (bndIs.some (n := i) rfl (by omega)) (by omega) (by simp; omega)) ?_) | (refine AQE.p rfl (AOp.cut (sz := 1) rfl rfl (by kernel_rfl) (str_sz _) (bndIs.some (n := i) rfl (by omega)) bndIs.none (by simp; omega) (by omega)) ?_)) <;> refine AQE.hl ?_ <;> refine AQE.e ?_ <;> refine AQE.p rfl (AOp.lit (e := 9) (sz := 1) (by kernel_rfl) rfl rfl rfl (P_one rfl) (by decide)) ?_ <;> refine AQE.hl ?_ <;> refine AQE.e ?_ <;> refine AQE.e ?_ <;> (first | (refine AQE.p rfl (AOp.cut (sz := 1) rfl rfl (by kernel_rfl) (str_sz _) bndIs.none (bndIs.some (n := i) rfl (by omega)) (by omega) (by simp; omega)) ?_) | (refine AQE.p rfl (AOp.cut (sz := 1) rfl rfl (by kernel_rfl) (str_sz _) (bndIs.some (n := i) rfl (by omega)) bndIs.none (by simp; omega) (by omega)) ?_)) <;> refine AQE.hl ?_ <;> refine AQE.hl ?_ <;> refine AQE.nil ?_ <;> refine AX.o (n := 4) 0 ?_ <;> (first | refine AXO.lit_own (e := 9) (sz := 1) (by kernel_rfl) rfl rfl rfl P_nil (by decide) fun b0 => ?_ | refine AXO.d (AOp.lit (e := 9) (sz := 1) (by kernel_rfl) rfl rfl rfl (P_one rfl) (by decide)) ?_) <;> try dsimp only [List.set_cons_succ, List.set_cons_zero, List.getD_cons_succ, List.getD_cons_zero] <;> refine AX.o (n := 3) 4 ?_ <;> refine AXO.append (i := 0) (e := 9) (sz := 1) (bytes := 16) rfl rfl rfl rfl (by kernel_rfl) (by kernel_rfl) (by repeat' (first | exact P_nil | refine P_app ?_ ?_ | refine P_take ?_ | refine P_drop ?_ | exact P_map fun _ => rfl | exact P_one rfl | exact P_rep rfl)) (by repeat' (first | exact P_nil | refine P_app ?_ ?_ | refine P_take ?_ | refine P_drop ?_ | exact P_map fun _ => rfl | exact P_one rfl | exact P_rep rfl)) (ok_all (by repeat' (first | exact P_nil | refine P_app ?_ ?_ | refine P_take ?_ | refine P_drop ?_ | exact P_map fun _ => rfl | exact P_one rfl | exact P_rep rfl))) (by (try simp only [List.length_append, List.length_map, List.length_take, List.length_drop, List.length_cons, List.length_nil, List.length_replicate]); omega) (by (try simp only [List.length_append, List.length_map, List.length_take, List.length_drop, List.length_cons, List.length_nil, List.length_replicate]); omega) rfl fun b' c' => ?_ <;> try dsimp only [List.set_cons_succ, List.set_cons_zero, List.getD_cons_succ, List.getD_cons_zero] <;> refine AX.o (n := 2) 7 ?_ <;> refine AXO.append (i := 0) (e := 9) (sz := 1) (bytes := 16) rfl rfl rfl rfl (by kernel_rfl) (by kernel_rfl) (by repeat' (first | exact P_nil | refine P_app ?_ ?_ | refine P_take ?_ | refine P_drop ?_ | exact P_map fun _ => rfl | exact P_one rfl | exact P_rep rfl)) (by repeat' (first | exact P_nil | refine P_app ?_ ?_ | refine P_take ?_ | refine P_drop ?_ | exact P_map fun _ => rfl | exact P_one rfl | exact P_rep rfl)) (ok_all (by repeat' (first | exact P_nil | refine P_app ?_ ?_ | refine P_take ?_ | refine P_drop ?_ | exact P_map fun _ => rfl | exact P_one rfl | exact P_rep rfl))) (by (try simp only [List.length_append, List.length_map, List.length_take, List.length_drop, List.length_cons, List.length_nil, List.length_replicate]); omega) (by (try simp only [List.length_append, List.length_map, List.length_take, List.length_drop, List.length_cons, List.length_nil, List.length_replicate]); omega) rfl fun b' c' => ?_ <;> try dsimp only [List.set_cons_succ, List.set_cons_zero, List.getD_cons_succ, List.getD_cons_zero] <;> refine AX.o (n := 1) 11 ?_ <;> refine AXO.append (i := 0) (e := 9) (sz := 1) (bytes := 16) rfl rfl rfl rfl (by kernel_rfl) (by kernel_rfl) (by repeat' (first | exact P_nil | refine P_app ?_ ?_ | refine P_take ?_ | refine P_drop ?_ | exact P_map fun _ => rfl | exact P_one rfl | exact P_rep rfl)) (by repeat' (first | exact P_nil | refine P_app ?_ ?_ | refine P_take ?_ | refine P_drop ?_ | exact P_map fun _ => rfl | exact P_one rfl | exact P_rep rfl)) (ok_all (by repeat' (first | exact P_nil | refine P_app ?_ ?_ | refine P_take ?_ | refine P_drop ?_ | exact P_map fun _ => rfl | exact P_one rfl | exact P_rep rfl))) (by (try simp only [List.length_append, List.length_map, List.length_take, List.length_drop, List.length_cons, List.length_nil, List.length_replicate]); omega) (by (try simp only [List.length_append, List.length_map, List.length_take, List.length_drop, List.length_cons, List.length_nil, List.length_replicate]); omega) rfl fun b' c' => ?_ <;> try dsimp only [List.set_cons_succ, List.set_cons_zero, List.getD_cons_succ, List.getD_cons_zero] <;> refine AX.o (n := 0) 12 ?_ <;> refine AXO.e ?_ <;> try dsimp only [List.set_cons_succ, List.set_cons_zero, List.getD_cons_succ, List.getD_cons_zero] <;> refine AX.done_keep [0, 1, 4, 5, 6, 7, 8, 9, 10, 11, 12, 13, 14, 15, 16, 17, 18, 19, 20, 21, 22, 23, 24, 25, 26, 27, 28, 29, 30, 31, 32] ?_) | refine AW.jt ?_ | refine AW.jf ?_ | refine AW.jj (fun hb => ?_) (fun hb => ?_) | refine AW.go ?_ | fail)
    refine AW.as_sl 4 rfl ?_
    refine AW.ret_drop rfl (List.nil_sublist _) ⟨?_, rfl⟩
    rw [he]
    show AEnd.ret (AV.sl _) = AEnd.ret (AV.sl _)
    congr 2
    have : i = l.length := by omega
    subst this
    simp [List.take_of_length_le]
end Go.Proofs.YtdedkpfbfklgbaaGreat
namespace Go.Proofs.YtdedkpfbfklgbaaGreat
open Go.RowKit Go.SX
set_option maxRecDepth 100000
set_option maxHeartbeats 4000000
set_option linter.unusedVariables false
set_option linter.unusedSimpArgs false
def empS : ByteArray := ⟨#[]⟩
def condA (a : GSym) : AV := .st [.int .i64 0, .bool false, .st [.str a.Name, .sl (List.replicate a.Arity.toNat (.str empS))]]
def ruleA (T : List GSym) : AV := .st [.st [.str empS, .sl []], .sl (T.map condA)]
def atomsP (T : List GSym) : List GSym := ⟨empS, 0⟩ :: T
def symOkT (T : List GSym) : Prop := T.length ≤ 100000 ∧ ∀ a ∈ T, 0 ≤ a.Arity ∧ a.Arity ≤ 1000
theorem ref_Defined (T : List GSym) : Tri Tryz.prog 120 [.sl [ruleA T]] [] (D (strs [empS]) []) := by
  have hR := ref_rising [] empS (by simp)
  refine Tri.enter 20 Tryz.func120 rfl rfl rfl rfl fun Fr w0 => ?_
  repeat' (first | refine AW.re 0 1 ?_ | refine AW.re 1 1 ?_ | refine AW.re 2 1 ?_ | refine AW.jt ?_ | refine AW.jf ?_ | refine AW.jj (fun hb => ?_) (fun hb => ?_) | refine AW.go ?_ | fail)
  refine AW.prune [0, 3, 4] (AW.loop (fun mz af h => ∃ (i : Nat) (l : List ByteArray), i ≤ 1 ∧ mz = 1 - i ∧ af = [(0, .sl [ruleA T]), (3, strs l), (4, .int .i64 i)] ∧ h = [] ∧ l = (if i = 0 then [] else [empS])) 1 ⟨0, [], Nat.zero_le _, rfl, rfl, rfl, rfl⟩ ?_)
  rintro mz af h ⟨i, l, hi, rfl, rfl, rfl, he⟩
  refine AW.seq ?_
  by_cases hlt : i < 1
  · obtain rfl : i = 0 := by omega
    rw [if_pos rfl] at he
    subst he
    have hx' : [ruleA T][((0 : Nat) : Int).toNat]? = some (.st [.st [.str empS, .sl []], .sl (T.map condA)]) := rfl
    repeat' (first | refine AW.re 3 4 ?_ | (refine AW.r 5 ?_ <;> refine AL.es 3 ?_ <;> refine AL.d (AOp.index_sl rfl rfl (by omega) hx' (by kernel_rfl) rfl) ?_ <;> refine AL.es 3 ?_ <;> refine AL.d (AOp.call rfl rfl hR) ?_ <;> refine AL.es 1 ?_ <;> refine AL.nil ?_) | (refine AW.r 4 ?_ <;> refine AL.es 1 ?_ <;> refine AL.d AOp.ad ?_ <;> refine AL.es 1 ?_ <;> refine AL.nil ?_) | refine AW.jt ?_ | refine AW.jf ?_ | refine AW.jj (fun hb => ?_) (fun hb => ?_) | refine AW.go ?_ | fail)
    all_goals try (exfalso; simp only [decide_eq_true_eq, decide_eq_false_iff_not, List.length_map] at *; omega)
    exact AW.again_keep (1 - (0 + 1)) [0, 3, 4] (by omega) ⟨0 + 1, [empS], hlt, rfl, rfl, rfl, rfl⟩
  · rw [if_neg (by omega)] at he
    subst he
    repeat' (first | refine AW.re 3 4 ?_ | refine AW.re 6 2 ?_ | refine AW.jt ?_ | refine AW.jf ?_ | refine AW.jj (fun hb => ?_) (fun hb => ?_) | refine AW.go ?_ | fail)
    all_goals try (exfalso; simp only [decide_eq_true_eq, decide_eq_false_iff_not, List.length_map, List.length_cons, List.length_nil] at *; omega)
    exact AW.retv rfl ⟨rfl, rfl⟩
theorem ref_atoms (T : List GSym) (hT : symOkT T) : Tri Tryz.prog 121 [.sl [ruleA T]] [] (D (.sl ((atomsP T).map GSym.av)) []) := by
  obtain ⟨hTl, hTa⟩ := hT
  refine Tri.enter 63 Tryz.func121 rfl rfl rfl rfl fun Fr w0 => ?_
  refine AW.own_nil 2 ?_
  repeat' (first | (refine AW.r 0 ?_ <;> (first | refine AL.d AOp.assign_nil ?_ | refine AL.e ?_) <;> refine AL.nil ?_) | (refine AW.r 1 ?_ <;> (first | refine AL.d AOp.assign_nil ?_ | refine AL.e ?_) <;> refine AL.nil ?_) | (refine AW.r 2 ?_ <;> (first | refine AL.d AOp.assign_nil ?_ | refine AL.e ?_) <;> refine AL.nil ?_) | refine AW.jt ?_ | refine AW.jf ?_ | refine AW.jj (fun hb => ?_) (fun hb => ?_) | refine AW.go ?_ | fail)
  refine AW.prune [0, 3, 4] (AW.loop (fun mz af h => ∃ (i : Nat) (out : List GSym) (tb : Option Nat) (tc : Nat), i ≤ 1 ∧ mz = 1 - i ∧ af = [(0, .sl [ruleA T]), (3, .slt (out.map GSym.av) tb tc), (4, .int .i64 i)] ∧ h = [.tail tb (out.map GSym.av).length tc 2] ∧ out = (if i = 0 then [] else atomsP T)) 1 ⟨0, [], none, 0, Nat.zero_le _, rfl, rfl, rfl, rfl⟩ ?_)
  rintro mz af h ⟨i, out, tb, tc, hi, rfl, rfl, rfl, he⟩
  refine AW.seq ?_
  by_cases hlt : i < 1
  · obtain rfl : i = 0 := by omega
    rw [if_pos rfl] at he
    subst he
    have hx' : [ruleA T][((0 : Nat) : Int).toNat]? = some (.st [.st [.str empS, .sl []], .sl (T.map condA)]) := rfl
    repeat' (first | refine AW.re 3 4 ?_ | refine AW.jt ?_ | refine AW.jf ?_ | refine AW.jj (fun hb => ?_) (fun hb => ?_) | refine AW.go ?_ | fail)
    all_goals try (exfalso; simp only [decide_eq_true_eq, decide_eq_false_iff_not, List.length_cons, List.length_nil] at *; omega)
    repeat' (first | (refine AW.ex 5 [true] [16, 17] ?_ <;> refine AQE.e ?_ <;> refine AQE.e ?_ <;> refine AQE.e ?_ <;> refine AQE.p rfl (AOp.index_sl rfl rfl (by omega) hx' (by kernel_rfl) rfl) ?_ <;> (first | refine AQE.p rfl AOp.fa ?_ | refine AQE.p rfl (AOp.fr 0) ?_) <;> (first | refine AQE.p rfl AOp.fa ?_ | refine AQE.p rfl (AOp.fr 0) ?_) <;> refine AQE.p rfl AOp.la ?_ <;> refine AQE.e ?_ <;> refine AQE.e ?_ <;> refine AQE.p rfl (AOp.index_sl rfl rfl (by omega) hx' (by kernel_rfl) rfl) ?_ <;> (first | refine AQE.p rfl AOp.fa ?_ | refine AQE.p rfl (AOp.fr 0) ?_) <;> (first | refine AQE.p rfl AOp.fa ?_ | refine AQE.p rfl (AOp.fr 1) ?_) <;> refine AQE.p rfl AOp.la ?_ <;> refine AQE.p rfl AOp.ln ?_ <;> refine AQE.p rfl (AOp.build (pl := [(0, 1), (1, 1)]) (z := .st [.str ⟨#[]⟩, .int .i64 0]) (by kernel_rfl) rfl rfl rfl) ?_ <;> refine AQE.p rfl (AOp.lit (e := 74) (sz := 2) (by kernel_rfl) rfl rfl rfl (P_one rfl) (by decide)) ?_ <;> refine AQE.hl ?_ <;> refine AQE.hl ?_ <;> refine AQE.nil ?_ <;> refine AX.o (n := 1) 16 ?_ <;> refine AXO.append (i := 0) (e := 74) (sz := 2) (bytes := 24) rfl rfl rfl rfl (by kernel_rfl) (by kernel_rfl) (by repeat' (first | exact P_nil | refine P_app ?_ ?_ | refine P_take ?_ | refine P_drop ?_ | exact P_map fun _ => rfl | exact P_one rfl | exact P_rep rfl)) (by repeat' (first | exact P_nil | refine P_app ?_ ?_ | refine P_take ?_ | refine P_drop ?_ | exact P_map fun _ => rfl | exact P_one rfl | exact P_rep rfl)) (ok_all (by repeat' (first | exact P_nil | refine P_app ?_ ?_ | refine P_take ?_ | refine P_drop ?_ | exact P_map fun _ => rfl | exact P_one rfl | exact P_rep rfl))) (by (try simp only [List.length_append, List.length_map, List.length_take, List.length_drop, List.length_cons, List.length_nil, List.length_replicate]); omega) (by (try simp only [List.length_append, List.length_map, List.length_take, List.length_drop, List.length_cons, List.length_nil, List.length_replicate]); omega) rfl fun b' c' => ?_ <;> try dsimp only [List.set_cons_succ, List.set_cons_zero, List.getD_cons_succ, List.getD_cons_zero] <;> refine AX.o (n := 0) 17 ?_ <;> refine AXO.e ?_ <;> try dsimp only [List.set_cons_succ, List.set_cons_zero, List.getD_cons_succ, List.getD_cons_zero] <;> refine AX.done_keep [0, 2, 3, 4, 5, 6, 7, 8, 9, 10, 11, 12, 30, 31, 32, 33, 34, 35, 36, 37, 38, 39, 40, 41, 42, 43, 44, 45, 46, 47, 48, 49, 50, 51, 52, 53, 54, 55, 56, 57, 58, 59, 60, 61, 62] ?_) | refine AW.re 6 1 ?_ | refine AW.jt ?_ | refine AW.jf ?_ | refine AW.jj (fun hb => ?_) (fun hb => ?_) | refine AW.go ?_ | fail)
    refine AW.prune [0, 3, 4, 5] (AW.loop (fun mz af h => ∃ (i : Nat) (o : List GSym) (tb : Option Nat) (tc : Nat), i ≤ T.length ∧ mz = T.length - i ∧ af = [(0, .sl [ruleA T]), (3, .slt (o.map GSym.av) tb tc), (4, .int .i64 ((0 : Nat) : Int)), (5, .int .i64 i)] ∧ h = [.tail tb (o.map GSym.av).length tc 2] ∧ o = ⟨empS, 0⟩ :: T.take i) T.length ⟨0, [⟨empS, 0⟩], _, _, Nat.zero_le _, rfl, rfl, rfl, rfl⟩ ?_)
    rintro mz af h ⟨i, o, tb, tc, hi, rfl, rfl, rfl, he⟩
    refine AW.seq ?_
    by_cases hlt : i < T.length
    · obtain ⟨x, hx⟩ := get_lt hlt
      have hxa := hTa x (List.mem_of_getElem? hx)
      obtain ⟨nm, ar⟩ := x
      obtain ⟨k, hk⟩ := Int.eq_ofNat_of_zero_le hxa.1
      simp only at hk
      subst hk
      have hxx : (T.map condA)[((i : Nat) : Int).toNat]? = some (.st [.int .i64 0, .bool false, .st [.str nm, .sl (List.replicate k (.str empS))]]) := map_get hx
      have hol : o.length = i + 1 := by rw [he]; simp; omega
      repeat' (first | (refine AW.r 7 ?_ <;> refine AL.es 3 ?_ <;> (first | refine AL.d (AOp.index_sl rfl rfl (by omega) hx' (by kernel_rfl) rfl) ?_ | refine AL.d (AOp.index_sl rfl rfl (by omega) hxx (by kernel_rfl) rfl) ?_) <;> refine AL.es 4 ?_ <;> refine AL.nil ?_) | (refine AW.r 9 ?_ <;> refine AL.es 2 ?_ <;> (first | refine AL.d (AOp.index_sl rfl rfl (by omega) hx' (by kernel_rfl) rfl) ?_ | refine AL.d (AOp.index_sl rfl rfl (by omega) hxx (by kernel_rfl) rfl) ?_) <;> refine AL.es 3 ?_ <;> (first | refine AL.d (AOp.index_sl rfl rfl (by omega) hx' (by kernel_rfl) rfl) ?_ | refine AL.d (AOp.index_sl rfl rfl (by omega) hxx (by kernel_rfl) rfl) ?_) <;> refine AL.es 1 ?_ <;> refine AL.alloc_store (by kernel_rfl) rfl rfl rfl rfl ?_ <;> refine AL.nil ?_) | refine AW.re 10 3 ?_ | (refine AW.r 11 ?_ <;> refine AL.es 8 ?_ <;> refine AL.d (AOp.build (pl := [(0, 1), (1, 1)]) (z := .st [.str ⟨#[]⟩, .int .i64 0]) (by kernel_rfl) rfl rfl rfl) ?_ <;> refine AL.d (AOp.lit (e := 74) (sz := 2) (by kernel_rfl) rfl rfl rfl (P_one rfl) (by decide)) ?_ <;> refine AL.append (i := 0) (e := 74) (sz := 2) (bytes := 24) rfl rfl rfl rfl (by kernel_rfl) (by kernel_rfl) (by repeat' (first | exact P_nil | refine P_app ?_ ?_ | refine P_take ?_ | refine P_drop ?_ | exact P_map fun _ => rfl | exact P_one rfl | exact P_rep rfl)) (by repeat' (first | exact P_nil | refine P_app ?_ ?_ | refine P_take ?_ | refine P_drop ?_ | exact P_map fun _ => rfl | exact P_one rfl | exact P_rep rfl)) (ok_all (by repeat' (first | exact P_nil | refine P_app ?_ ?_ | refine P_take ?_ | refine P_drop ?_ | exact P_map fun _ => rfl | exact P_one rfl | exact P_rep rfl))) (by (try simp only [List.length_append, List.length_map, List.length_take, List.length_drop, List.length_cons, List.length_nil, List.length_replicate]); omega) (by (try simp only [List.length_append, List.length_map, List.length_take, List.length_drop, List.length_cons, List.length_nil, List.length_replicate]); omega) rfl fun b' c' => ?_ <;> refine AL.es 1 ?_ <;> refine AL.nil ?_) | (refine AW.r 8 ?_ <;> refine AL.es 1 ?_ <;> refine AL.d AOp.ad ?_ <;> refine AL.es 1 ?_ <;> refine AL.nil ?_) | refine AW.jt ?_ | refine AW.jf ?_ | refine AW.jj (fun hb => ?_) (fun hb => ?_) | refine AW.go ?_ | fail)
      all_goals try (exfalso; simp only [decide_eq_true_eq, decide_eq_false_iff_not, List.length_map] at *; omega)
      have htk : T.take (i + 1) = T.take i ++ [(⟨nm, (k : Int)⟩ : GSym)] := by rw [List.take_add_one, hx]; rfl
      have hav : AV.st [.str nm, .int .i64 (List.replicate k (AV.str empS)).length] = GSym.av ⟨nm, (k : Int)⟩ := by rw [List.length_replicate]; rfl
      have hmm : (o ++ [(⟨nm, (k : Int)⟩ : GSym)]).map GSym.av = o.map GSym.av ++ [AV.st [.str nm, .int .i64 (List.replicate k (AV.str empS)).length]] := by rw [hav]; simp
      refine AW.again_keep (T.length - (i + 1)) [0, 3, 4, 5] (by omega) ⟨i + 1, o ++ [(⟨nm, (k : Int)⟩ : GSym)], b', c', hlt, rfl, ?_, ?_, ?_⟩
      · rw [hmm]; rfl
      · rw [hmm]; rfl
      · rw [he, htk]; rfl
    · obtain rfl : i = T.length := by omega
      rw [List.take_length] at he
      subst he
      repeat' (first | (refine AW.r 7 ?_ <;> refine AL.es 3 ?_ <;> refine AL.d (AOp.index_sl rfl rfl (by omega) hx' (by kernel_rfl) rfl) ?_ <;> refine AL.es 4 ?_ <;> refine AL.nil ?_) | refine AW.jt ?_ | refine AW.jf ?_ | refine AW.jj (fun hb => ?_) (fun hb => ?_) | refine AW.go ?_ | fail)
      all_goals try (exfalso; simp only [decide_eq_true_eq, decide_eq_false_iff_not, List.length_map] at *; omega)
      repeat' (first | (refine AW.r 4 ?_ <;> refine AL.es 1 ?_ <;> refine AL.d AOp.ad ?_ <;> refine AL.es 1 ?_ <;> refine AL.nil ?_) | refine AW.jt ?_ | refine AW.jf ?_ | refine AW.jj (fun hb => ?_) (fun hb => ?_) | refine AW.go ?_ | fail)
      exact AW.again_keep (1 - (0 + 1)) [0, 3, 4] (by omega) ⟨0 + 1, _, _, _, by omega, rfl, rfl, rfl, rfl⟩
  · rw [if_neg (by omega)] at he
    subst he
    repeat' (first | refine AW.re 3 4 ?_ | refine AW.re 12 2 ?_ | refine AW.jt ?_ | refine AW.jf ?_ | refine AW.jj (fun hb => ?_) (fun hb => ?_) | refine AW.go ?_ | fail)
    all_goals try (exfalso; simp only [decide_eq_true_eq, decide_eq_false_iff_not, List.length_cons, List.length_nil] at *; omega)
    refine AW.as_sl 2 rfl ?_
    exact AW.ret_drop rfl (List.nil_sublist _) ⟨rfl, rfl⟩
theorem ref_Arity (T : List GSym) (hT : symOkT T) (n : ByteArray) : Tri Tryz.prog 124 [.sl [ruleA T], .str n] [] (D (.int .i64 ((arOf (atomsP T) n).getD (-1))) []) := by
  have hA := ref_atoms T hT
  have hl : (atomsP T).length ≤ 1000000 := by have := hT.1; simp [atomsP]; omega
  generalize atomsP T = L at *
  refine Tri.enter 27 Tryz.func124 rfl rfl rfl rfl fun Fr w0 => ?_
  repeat' (first | refine AW.re 0 1 ?_ | (refine AW.r 1 ?_ <;> refine AL.es 1 ?_ <;> refine AL.d (AOp.call rfl rfl hA) ?_ <;> refine AL.es 1 ?_ <;> refine AL.nil ?_) | refine AW.re 2 1 ?_ | refine AW.jt ?_ | refine AW.jf ?_ | refine AW.jj (fun hb => ?_) (fun hb => ?_) | refine AW.go ?_ | fail)
  refine AW.prune [1, 5, 6] (AW.loop (fun mz af h => ∃ (i : Nat), i ≤ L.length ∧ mz = L.length - i ∧ af = [(1, .str n), (5, .sl (L.map GSym.av)), (6, .int .i64 i)] ∧ h = [] ∧ arOf L n = arOf (L.drop i) n) L.length ⟨0, Nat.zero_le _, rfl, rfl, rfl, rfl⟩ ?_)
  rintro mz af h ⟨i, hi, rfl, rfl, rfl, he⟩
  refine AW.seq ?_
  by_cases hlt : i < L.length
  · obtain ⟨x, hx⟩ := get_lt hlt
    have hx' : (L.map GSym.av)[((i : Nat) : Int).toNat]? = some x.av := map_get hx
    rw [drop_cons hx, show x :: L.drop (i + 1) = [x] ++ L.drop (i + 1) from rfl, arOf_append, arOf_one] at he
    repeat' (first | refine AW.re 3 4 ?_ | (refine AW.r 5 ?_ <;> refine AL.es 2 ?_ <;> refine AL.d (AOp.index_sl rfl rfl (by omega) hx' (by kernel_rfl) rfl) ?_ <;> refine AL.es 4 ?_ <;> refine AL.nil ?_) | (refine AW.r 6 ?_ <;> refine AL.es 2 ?_ <;> refine AL.d (AOp.index_sl rfl rfl (by omega) hx' (by kernel_rfl) rfl) ?_ <;> refine AL.es 3 ?_ <;> refine AL.nil ?_) | (refine AW.r 4 ?_ <;> refine AL.es 1 ?_ <;> refine AL.d AOp.ad ?_ <;> refine AL.es 1 ?_ <;> refine AL.nil ?_) | refine AW.jt ?_ | refine AW.jf ?_ | refine AW.jj (fun hb => ?_) (fun hb => ?_) | refine AW.go ?_ | fail)
    all_goals try (exfalso; simp only [decide_eq_true_eq, decide_eq_false_iff_not, List.length_map] at *; omega)
    all_goals rw [toList_beq] at hb
    · rw [if_pos (by simpa using hb)] at he
      exact AW.retv rfl ⟨by rw [he]; rfl, rfl⟩
    · rw [if_neg (by simpa using hb)] at he
      exact AW.again_keep (L.length - (i + 1)) [1, 5, 6] (by omega) ⟨i + 1, hlt, rfl, rfl, rfl, he⟩
  · rw [List.drop_eq_nil_of_le (by omega)] at he
    repeat' (first | refine AW.re 3 4 ?_ | refine AW.re 7 1 ?_ | refine AW.jt ?_ | refine AW.jf ?_ | refine AW.jj (fun hb => ?_) (fun hb => ?_) | refine AW.go ?_ | fail)
    all_goals try (exfalso; simp only [decide_eq_true_eq, decide_eq_false_iff_not, List.length_map] at *; omega)
    exact AW.retv rfl ⟨by rw [he]; rfl, rfl⟩
def ordGo : List GSym → List ByteArray → List ByteArray
  | [], o => o
  | a :: l, o => ordGo l (if a.Name = empS then o else risP o a.Name)
theorem ordGo_len : ∀ (l : List GSym) (o : List ByteArray), (ordGo l o).length ≤ o.length + l.length
  | [], o => by simp [ordGo]
  | a :: l, o => by
    have h1 := ordGo_len l (if a.Name = empS then o else risP o a.Name)
    have h2 := risP_len o a.Name
    rw [ordGo, List.length_cons]
    split at h1 <;> rename_i h
    · rw [if_pos h]; omega
    · rw [if_neg h]; omega
def symsP (T : List GSym) : List GSym := (ordGo (atomsP T) []).map fun n => ⟨n, (arOf (atomsP T) n).getD (-1)⟩
theorem ref_Symbols7 (T : List GSym) (hT : symOkT T) : Tri Tryz.prog 90 [.sl [ruleA T]] [] (D (.sl ((symsP T).map GSym.av)) []) := by
  have hA := ref_atoms T hT
  have hD := ref_Defined T
  have hAr0 := ref_Arity T hT
  have hl : (atomsP T).length ≤ 200000 := by have := hT.1; simp [atomsP]; omega
  have hol := ordGo_len (atomsP T) []
  unfold symsP
  generalize hO : ordGo (atomsP T) [] = O at *
  generalize hF : (fun n => (arOf (atomsP T) n).getD (-1)) = F at *
  have hAr : ∀ n, Tri Tryz.prog 124 [.sl [ruleA T], .str n] [] (D (.int .i64 (F n)) []) := fun n => by rw [← hF]; exact hAr0 n
  have hgoal : (fun n => (⟨n, (arOf (atomsP T) n).getD (-1)⟩ : GSym)) = fun n => ⟨n, F n⟩ := by rw [← hF]
  rw [hgoal]
  clear hgoal hF hAr0
  generalize atomsP T = L at *
  rw [List.length_nil, Nat.zero_add] at hol
  refine Tri.enter 55 Tryz.func90 rfl rfl rfl rfl fun Fr w0 => ?_
  repeat' (first | refine AW.re 0 1 ?_ | (refine AW.r 1 ?_ <;> refine AL.es 1 ?_ <;> (first | refine AL.d (AOp.call rfl rfl hA) ?_ | refine AL.d (AOp.call rfl rfl hD) ?_) <;> refine AL.es 1 ?_ <;> refine AL.nil ?_) | refine AW.re 2 1 ?_ | (refine AW.r 3 ?_ <;> refine AL.es 1 ?_ <;> (first | refine AL.d (AOp.call rfl rfl hA) ?_ | refine AL.d (AOp.call rfl rfl hD) ?_) <;> refine AL.es 1 ?_ <;> refine AL.nil ?_) | refine AW.re 4 1 ?_ | refine AW.jt ?_ | refine AW.jf ?_ | refine AW.jj (fun hb => ?_) (fun hb => ?_) | refine AW.go ?_ | fail)
  refine AW.prune [0, 3, 4, 5, 6] (AW.loop (fun mz af h => ∃ (i : Nat) (o : List ByteArray), i ≤ L.length ∧ mz = L.length - i ∧ af = [(0, .sl [ruleA T]), (3, strs [empS]), (4, strs o), (5, .sl (L.map GSym.av)), (6, .int .i64 i)] ∧ h = [] ∧ (O = ordGo (L.drop i) o ∧ o.length ≤ i)) L.length ⟨0, [], Nat.zero_le _, rfl, rfl, rfl, ⟨hO.symm, Nat.le_refl _⟩⟩ ?_)
  rintro mz af h ⟨i, o, hi, rfl, rfl, rfl, he⟩
  refine AW.seq ?_
  by_cases hlt : i < L.length
  all_goals obtain ⟨he, hoi⟩ := he
  · obtain ⟨x, hx⟩ := get_lt hlt
    have hx' : (L.map GSym.av)[((i : Nat) : Int).toNat]? = some x.av := map_get hx
    have hAm := ref_Among [empS] x.Name (by simp)
    have hR := ref_rising o x.Name (by omega)
    have hrl := risP_len o x.Name
    rw [drop_cons hx, ordGo] at he
    rw [show ([empS].any fun y => decide (y = x.Name)) = decide (x.Name = empS) by simp [eq_comm]] at hAm
    repeat' (first | refine AW.re 5 4 ?_ | (refine AW.r 7 ?_ <;> refine AL.es 3 ?_ <;> refine AL.d (AOp.index_sl rfl rfl (by omega) hx' (by kernel_rfl) rfl) ?_ <;> refine AL.es 2 ?_ <;> (first | refine AL.d (AOp.call rfl rfl hAm) ?_ | refine AL.d (AOp.call rfl rfl hR) ?_) <;> refine AL.es 1 ?_ <;> refine AL.nil ?_) | (refine AW.r 8 ?_ <;> refine AL.es 3 ?_ <;> refine AL.d (AOp.index_sl rfl rfl (by omega) hx' (by kernel_rfl) rfl) ?_ <;> refine AL.es 2 ?_ <;> (first | refine AL.d (AOp.call rfl rfl hAm) ?_ | refine AL.d (AOp.call rfl rfl hR) ?_) <;> refine AL.es 1 ?_ <;> refine AL.nil ?_) | (refine AW.r 6 ?_ <;> refine AL.es 1 ?_ <;> refine AL.d AOp.ad ?_ <;> refine AL.es 1 ?_ <;> refine AL.nil ?_) | refine AW.jt ?_ | refine AW.jf ?_ | refine AW.jj (fun hb => ?_) (fun hb => ?_) | refine AW.go ?_ | fail)
    all_goals try (exfalso; simp only [decide_eq_true_eq, decide_eq_false_iff_not, List.length_map] at *; omega)
    · rw [if_neg (by simpa using hb)] at he
      exact AW.again_keep (L.length - (i + 1)) [0, 3, 4, 5, 6] (by omega) ⟨i + 1, _, hlt, rfl, rfl, rfl, he, by omega⟩
    · rw [if_pos (by simpa using hb)] at he
      exact AW.again_keep (L.length - (i + 1)) [0, 3, 4, 5, 6] (by omega) ⟨i + 1, _, hlt, rfl, rfl, rfl, he, by omega⟩
  · rw [List.drop_eq_nil_of_le (by omega), ordGo] at he
    subst he
    repeat' (first | refine AW.re 5 4 ?_ | refine AW.jt ?_ | refine AW.jf ?_ | refine AW.jj (fun hb => ?_) (fun hb => ?_) | refine AW.go ?_ | fail)
    all_goals try (exfalso; simp only [decide_eq_true_eq, decide_eq_false_iff_not, List.length_map] at *; omega)
    refine AW.own_nil 2 ?_
    repeat' (first | (refine AW.r 9 ?_ <;> (first | refine AL.d AOp.assign_nil ?_ | refine AL.e ?_) <;> refine AL.nil ?_) | (refine AW.r 10 ?_ <;> (first | refine AL.d AOp.assign_nil ?_ | refine AL.e ?_) <;> refine AL.nil ?_) | refine AW.jt ?_ | refine AW.jf ?_ | refine AW.jj (fun hb => ?_) (fun hb => ?_) | refine AW.go ?_ | fail)
    refine AW.prune [0, 4, 7, 8] (AW.loop (fun mz af h => ∃ (i : Nat) (out : List GSym) (tb : Option Nat) (tc : Nat), i ≤ O.length ∧ mz = O.length - i ∧ af = [(0, .sl [ruleA T]), (4, strs O), (7, .slt (out.map GSym.av) tb tc), (8, .int .i64 i)] ∧ h = [.tail tb (out.map GSym.av).length tc 2] ∧ out = ((O.take i).map fun n => (⟨n, F n⟩ : GSym))) O.length ⟨0, [], none, 0, Nat.zero_le _, rfl, rfl, rfl, rfl⟩ ?_)
    rintro mz af h ⟨i, out, tb, tc, hi, rfl, rfl, rfl, he⟩
    refine AW.seq ?_
    by_cases hlt : i < O.length
    · obtain ⟨x, hx⟩ := get_lt hlt
      have hx' : (O.map AV.str)[((i : Nat) : Int).toNat]? = some (.str x) := map_get hx
      have hAx := hAr x
      have htk : O.take (i + 1) = O.take i ++ [x] := by rw [List.take_add_one, hx]; rfl
      have hlo : out.length = i := by rw [he]; simp; omega
      repeat' (first | refine AW.re 11 4 ?_ | refine AW.jt ?_ | refine AW.jf ?_ | refine AW.jj (fun hb => ?_) (fun hb => ?_) | refine AW.go ?_ | fail)
      all_goals try (exfalso; simp only [decide_eq_true_eq, decide_eq_false_iff_not, List.length_map] at *; omega)
      repeat' (first | (refine AW.ex 13 [true] [13, 14] ?_ <;> refine AQE.e ?_ <;> refine AQE.e ?_ <;> refine AQE.e ?_ <;> refine AQE.p rfl (AOp.index_sl rfl rfl (by omega) hx' (by kernel_rfl) rfl) ?_ <;> refine AQE.p rfl AOp.la ?_ <;> refine AQE.e ?_ <;> refine AQE.e ?_ <;> refine AQE.e ?_ <;> refine AQE.p rfl (AOp.index_sl rfl rfl (by omega) hx' (by kernel_rfl) rfl) ?_ <;> refine AQE.p rfl AOp.la ?_ <;> refine AQE.p rfl (AOp.call rfl rfl (hAx.pure _)) ?_ <;> refine AQE.p rfl (AOp.build (pl := [(0, 1), (1, 1)]) (z := .st [.str ⟨#[]⟩, .int .i64 0]) (by kernel_rfl) rfl rfl rfl) ?_ <;> refine AQE.p rfl (AOp.lit (e := 74) (sz := 2) (by kernel_rfl) rfl rfl rfl (P_one rfl) (by decide)) ?_ <;> refine AQE.hl ?_ <;> refine AQE.hl ?_ <;> refine AQE.nil ?_ <;> refine AX.o (n := 1) 13 ?_ <;> refine AXO.append (i := 0) (e := 74) (sz := 2) (bytes := 24) rfl rfl rfl rfl (by kernel_rfl) (by kernel_rfl) (by repeat' (first | exact P_nil | refine P_app ?_ ?_ | refine P_take ?_ | refine P_drop ?_ | exact P_map fun _ => rfl | exact P_one rfl | exact P_rep rfl)) (by repeat' (first | exact P_nil | refine P_app ?_ ?_ | refine P_take ?_ | refine P_drop ?_ | exact P_map fun _ => rfl | exact P_one rfl | exact P_rep rfl)) (ok_all (by repeat' (first | exact P_nil | refine P_app ?_ ?_ | refine P_take ?_ | refine P_drop ?_ | exact P_map fun _ => rfl | exact P_one rfl | exact P_rep rfl))) (by (try simp only [List.length_append, List.length_map, List.length_take, List.length_drop, List.length_cons, List.length_nil, List.length_replicate]); omega) (by (try simp only [List.length_append, List.length_map, List.length_take, List.length_drop, List.length_cons, List.length_nil, List.length_replicate]); omega) rfl fun b' c' => ?_ <;> try dsimp only [List.set_cons_succ, List.set_cons_zero, List.getD_cons_succ, List.getD_cons_zero] <;> refine AX.o (n := 0) 14 ?_ <;> refine AXO.e ?_ <;> try dsimp only [List.set_cons_succ, List.set_cons_zero, List.getD_cons_succ, List.getD_cons_zero] <;> refine AX.done_keep [0, 2, 3, 4, 5, 6, 7, 8, 9, 10, 11, 12, 13, 14, 15, 16, 17, 18, 19, 20, 21, 22, 23, 24, 25, 26, 27, 28, 29, 30, 31, 32, 33, 34, 35, 36, 37, 38, 39, 54] ?_) | (refine AW.r 12 ?_ <;> refine AL.es 1 ?_ <;> refine AL.d AOp.ad ?_ <;> refine AL.es 1 ?_ <;> refine AL.nil ?_) | refine AW.jt ?_ | refine AW.jf ?_ | refine AW.jj (fun hb => ?_) (fun hb => ?_) | refine AW.go ?_ | fail)
      have hmm : (out ++ [(⟨x, F x⟩ : GSym)]).map GSym.av = out.map GSym.av ++ [AV.st [.str x, .int .i64 (F x)]] := by simp [GSym.av]
      refine AW.again_keep (O.length - (i + 1)) [0, 4, 7, 8] (by omega) ⟨i + 1, out ++ [(⟨x, F x⟩ : GSym)], b', c', hlt, rfl, ?_, ?_, ?_⟩
      · rw [hmm]; rfl
      · rw [hmm]; rfl
      · rw [he, htk]; simp
    · rw [List.take_of_length_le (by omega)] at he
      subst he
      repeat' (first | refine AW.re 11 4 ?_ | refine AW.re 14 2 ?_ | refine AW.jt ?_ | refine AW.jf ?_ | refine AW.jj (fun hb => ?_) (fun hb => ?_) | refine AW.go ?_ | fail)
      all_goals try (exfalso; simp only [decide_eq_true_eq, decide_eq_false_iff_not, List.length_map] at *; omega)
      refine AW.as_sl 2 rfl ?_
      exact AW.ret_drop rfl (List.nil_sublist _) ⟨rfl, rfl⟩
end Go.Proofs.YtdedkpfbfklgbaaGreat
namespace Go.Proofs.YtdedkpfbfklgbaaGreat
open Go.RowKit Go.SX
set_option maxRecDepth 100000
set_option maxHeartbeats 4000000
set_option linter.unusedVariables false
set_option linter.unusedSimpArgs false
def polyAt (p : List Int) (i : Nat) : Int := (p[i]?).getD 0
def PolyOk (p : List Int) : Prop := ∀ x ∈ p, 0 ≤ x ∧ x ≤ 1099511627777
theorem polyAt_ok {p : List Int} (h : PolyOk p) (i : Nat) : 0 ≤ polyAt p i ∧ polyAt p i ≤ 1099511627777 := by
  unfold polyAt
  cases e : p[i]? with
  | none => simp
  | some x => exact h x (List.mem_of_getElem? e)
theorem code_at (p : List Int) (i : Nat) (hl : p.length ≤ 4611686018427387904) : Tri Tryz.prog 131 [ints p, .int .i64 i] [] (D (.int .i64 (polyAt p i)) []) := by
  by_cases h : i < p.length
  · obtain ⟨x, hx⟩ := get_lt h
    have hx' : (p.map iav)[((i : Nat) : Int).toNat]? = some (iav x) := map_get hx
    rw [polyAt, hx]
    refine Tri.enter 13 Tryz.func131 rfl rfl rfl rfl fun Fr w0 => ?_
    repeat' (first | refine AW.re 0 1 ?_ | refine AW.re 1 4 ?_ | (refine AW.r 2 ?_ <;> refine AL.es 2 ?_ <;> refine AL.d (AOp.index_sl rfl rfl (by omega) hx' (by kernel_rfl) rfl) ?_ <;> refine AL.es 2 ?_ <;> refine AL.nil ?_) | refine AW.re 3 1 ?_ | refine AW.jt ?_ | refine AW.jf ?_ | refine AW.jj (fun hb => ?_) (fun hb => ?_) | refine AW.go ?_ | fail)
    all_goals first
      | (exfalso; simp only [decide_eq_true_eq, decide_eq_false_iff_not, List.length_map] at *; omega)
      | exact AW.retv rfl ⟨rfl, rfl⟩
  · rw [polyAt, List.getElem?_eq_none (by omega)]
    refine Tri.enter 13 Tryz.func131 rfl rfl rfl rfl fun Fr w0 => ?_
    repeat' (first | refine AW.re 0 1 ?_ | refine AW.re 1 4 ?_ | refine AW.re 3 1 ?_ | refine AW.jt ?_ | refine AW.jf ?_ | refine AW.jj (fun hb => ?_) (fun hb => ?_) | refine AW.go ?_ | fail)
    all_goals first
      | (exfalso; simp only [decide_eq_true_eq, decide_eq_false_iff_not, List.length_map] at *; omega)
      | exact AW.retv rfl ⟨rfl, rfl⟩
theorem plus1 (a b : Int) (ha : 0 ≤ a ∧ a ≤ 1099511627777) (hb : 0 ≤ b ∧ b ≤ 1099511627777) : Tri Tryz.prog 129 [.int .i64 a, .int .i64 b] [] (D (.int .i64 (a + b)) []) := by
  refine Tri.enter 8 Tryz.func129 rfl rfl rfl rfl fun Fr w0 => ?_
  repeat' (first | refine AW.re 0 1 ?_ | (refine AW.r 1 ?_ <;> refine AL.es 2 ?_ <;> refine AL.d AOp.ad ?_ <;> refine AL.es 1 ?_ <;> refine AL.nil ?_) | refine AW.jt ?_ | refine AW.jf ?_ | refine AW.jj (fun hb => ?_) (fun hb => ?_) | refine AW.go ?_ | fail)
  exact AW.retv rfl ⟨rfl, rfl⟩
theorem time1 (a b : Int) : Tri Tryz.prog 100 [.int .i64 a, .int .i64 b] [] (D (.int .i64 (max a b)) []) := by
  refine Tri.enter 8 Tryz.func100 rfl rfl rfl rfl fun Fr w0 => ?_
  repeat' (first | refine AW.re 0 1 ?_ | (refine AW.r 1 ?_ <;> refine AL.es 2 ?_ <;> refine AL.d (AOp.max2 rfl rfl) ?_ <;> refine AL.es 1 ?_ <;> refine AL.nil ?_) | refine AW.jt ?_ | refine AW.jf ?_ | refine AW.jj (fun hb => ?_) (fun hb => ?_) | refine AW.go ?_ | fail)
  exact AW.retv rfl ⟨rfl, rfl⟩
def joinP (g : Int → Int → Int) (p q : List Int) : List Int := (List.range (max p.length q.length)).map fun i => min (g (polyAt p i) (polyAt q i)) 1099511627777
theorem joinP_len (g : Int → Int → Int) (p q : List Int) : (joinP g p q).length = max p.length q.length := by simp [joinP]
theorem joinP_get {g : Int → Int → Int} {p q : List Int} {i : Nat} (h : i < max p.length q.length) : (joinP g p q)[i]? = some (min (g (polyAt p i) (polyAt q i)) 1099511627777) := by
  simp only [joinP, List.getElem?_map, List.getElem?_range h, Option.map_some]
theorem joinP_ok {g : Int → Int → Int} {p q : List Int} (hp : PolyOk p) (hq : PolyOk q) (hg : ∀ a b, 0 ≤ a → 0 ≤ b → 0 ≤ g a b) : PolyOk (joinP g p q) := by
  intro x hx
  simp only [joinP, List.mem_map] at hx
  obtain ⟨i, _, rfl⟩ := hx
  have := hg _ _ (polyAt_ok hp i).1 (polyAt_ok hq i).1
  omega
theorem fill_set {α : Type} {L : List α} {n i : Nat} {v z : α} (hL : L.length = n) (hv : L[i]? = some v) : (L.take i ++ List.replicate (n - i) z).set i v = L.take (i + 1) ++ List.replicate (n - (i + 1)) z := by
  have hi : i < n := by rw [← hL]; exact (List.getElem?_eq_some_iff.1 hv).1
  have hl : (L.take i).length = i := by simp; omega
  rw [List.set_append, if_neg (by omega), hl, Nat.sub_self, show n - i = (n - (i + 1)) + 1 by omega, List.replicate_succ, List.set_cons_zero, List.take_add_one, hv]
  simp
theorem code_joined (p q : List Int) (hp : PolyOk p) (hq : PolyOk q) (hlp : p.length ≤ 2000000) (hlq : q.length ≤ 2000000) (fid : FuncId) (g : Int → Int → Int) (hg : ∀ a b, 0 ≤ a ∧ a ≤ 1099511627777 → 0 ≤ b ∧ b ≤ 1099511627777 → Tri Tryz.prog fid [.int .i64 a, .int .i64 b] [] (D (.int .i64 (g a b)) [])) :
    Tri Tryz.prog 99 [ints p, ints q, .fn fid []] [] (D (ints (joinP g p q)) []) := by
  obtain ⟨n, hn⟩ : ∃ n, n = max p.length q.length := ⟨_, rfl⟩
  have hMx : (some (AV.int .i64 (max ((p.map iav).length : Int) ((q.map iav).length : Int)))) = some (AV.int .i64 (n : Nat)) := by rw [List.length_map, List.length_map, hn]; congr 2; omega
  have hjl := joinP_len g p q
  rw [← hn] at hjl
  refine Tri.enter 34 Tryz.func99 rfl rfl rfl rfl fun Fr w0 => ?_
  repeat' (first | refine AW.re 0 1 ?_ | (refine AW.r 1 ?_ <;> refine AL.es 4 ?_ <;> refine AL.d (AOp.max2 rfl rfl) ?_ <;> refine AL.makeSlice (n := n) (e := 3) (c := .int .i64 0) (z := .int .i64 0) (bytes := 8) hMx hMx (by kernel_rfl) rfl (by omega) (by omega) rfl fun b => ?_ <;> refine AL.es 1 ?_ <;> refine AL.nil ?_) | refine AW.jt ?_ | refine AW.jf ?_ | refine AW.jj (fun hb => ?_) (fun hb => ?_) | refine AW.go ?_ | fail)
  repeat' (first | refine AW.re 2 3 ?_ | refine AW.jt ?_ | refine AW.jf ?_ | refine AW.jj (fun hb => ?_) (fun hb => ?_) | refine AW.go ?_ | fail)
  refine AW.prune [0, 1, 2, 7, 16, 17] (AW.loop (fun m af h => ∃ i : Nat, i ≤ n ∧ m = n - i ∧ af = [(0, ints p), (1, ints q), (2, .fn fid []), (7, .osl b n n), (16, .int .i64 n), (17, .int .i64 i)] ∧ h = [.row b (((joinP g p q).take i ++ List.replicate (n - i) 0).map iav)]) n ⟨0, Nat.zero_le _, rfl, rfl, by rw [List.take_zero, List.nil_append, Nat.sub_zero, List.map_replicate]; rfl⟩ ?_)
  rintro m af h ⟨i, hi, rfl, rfl, rfl⟩
  refine AW.seq ?_
  by_cases hlt : i < n
  · have h1 := code_at p i (by omega)
    have h2 := code_at q i (by omega)
    have h3 := hg _ _ (polyAt_ok hp i) (polyAt_ok hq i)
    repeat' (first | refine AW.re 3 1 ?_ | refine AW.re 4 2 ?_ | (refine AW.r 5 ?_ <;> refine AL.es 5 ?_ <;> (first | refine AL.d (AOp.call rfl rfl (h1.pure _)) ?_ | refine AL.d (AOp.call rfl rfl (h2.pure _)) ?_ | refine AL.d (AOp.call rfl rfl (h3.pure _)) ?_) <;> refine AL.es 2 ?_ <;> (first | refine AL.d (AOp.call rfl rfl (h1.pure _)) ?_ | refine AL.d (AOp.call rfl rfl (h2.pure _)) ?_ | refine AL.d (AOp.call rfl rfl (h3.pure _)) ?_) <;> (first | refine AL.d (AOp.call rfl rfl (h1.pure _)) ?_ | refine AL.d (AOp.call rfl rfl (h2.pure _)) ?_ | refine AL.d (AOp.call rfl rfl (h3.pure _)) ?_) <;> refine AL.d (AOp.min2 rfl rfl) ?_ <;> refine AL.d (AOp.index_osl rfl rfl (by omega) (by omega) (by kernel_rfl)) ?_ <;> refine AL.store_cell 0 rfl rfl rfl (by simp; omega) rfl rfl (by kernel_rfl) ?_ <;> refine AL.nil ?_) | refine AW.jt ?_ | refine AW.jf ?_ | refine AW.jj (fun hb => ?_) (fun hb => ?_) | refine AW.go ?_ | fail)
    all_goals try (exfalso; simp only [decide_eq_true_eq, decide_eq_false_iff_not, List.length_map] at *; omega)
    have hset := fill_set (z := (0 : Int)) hjl (joinP_get (g := g) (p := p) (q := q) (i := i) (by omega))
    repeat' (first | (refine AW.r 6 ?_ <;> refine AL.d AOp.ad ?_ <;> refine AL.es 1 ?_ <;> refine AL.nil ?_) | refine AW.jt ?_ | refine AW.jf ?_ | refine AW.jj (fun hb => ?_) (fun hb => ?_) | refine AW.go ?_ | fail)
    refine AW.again_keep (n - (i + 1)) [0, 1, 2, 7, 16, 17] (by omega) ⟨i + 1, hlt, rfl, rfl, ?_⟩
    rw [← hset, List.map_set]
    rfl
  · obtain rfl : i = n := by omega
    repeat' (first | refine AW.re 3 1 ?_ | refine AW.jt ?_ | refine AW.jf ?_ | refine AW.jj (fun hb => ?_) (fun hb => ?_) | refine AW.go ?_ | fail)
    all_goals try (exfalso; simp only [decide_eq_true_eq, decide_eq_false_iff_not] at *; omega)
    refine AW.freeze_row 0 7 rfl rfl (by simp; omega) (all_map fun _ => rfl) ?_
    repeat' (first | refine AW.re 7 2 ?_ | refine AW.jt ?_ | refine AW.jf ?_ | refine AW.jj (fun hb => ?_) (fun hb => ?_) | refine AW.go ?_ | fail)
    first | refine AW.donev rfl ⟨?_, rfl⟩ | refine AW.retv rfl ⟨?_, rfl⟩
    show AEnd.ret (.sl (((joinP g p q).take i ++ List.replicate (i - i) 0).map iav)) = _
    rw [Nat.sub_self, List.replicate_zero, List.append_nil, List.take_of_length_le (by omega)]
    rfl
def plusP (p q : List Int) : List Int := joinP (fun a b => a + b) p q
theorem code_plus (p q : List Int) (hp : PolyOk p) (hq : PolyOk q) (hlp : p.length ≤ 2000000) (hlq : q.length ≤ 2000000) : Tri Tryz.prog 97 [ints p, ints q] [] (D (ints (plusP p q)) []) := by
  have h := code_joined p q hp hq hlp hlq 129 (fun a b => a + b) plus1
  refine Tri.enter 8 Tryz.func97 rfl rfl rfl rfl fun Fr w0 => ?_
  repeat' (first | refine AW.re 0 1 ?_ | (refine AW.r 1 ?_ <;> refine AL.es 2 ?_ <;> refine AL.d (AOp.call rfl rfl h) ?_ <;> refine AL.es 1 ?_ <;> refine AL.nil ?_) | refine AW.jt ?_ | refine AW.jf ?_ | refine AW.jj (fun hb => ?_) (fun hb => ?_) | refine AW.go ?_ | fail)
  exact AW.retv rfl ⟨rfl, rfl⟩
theorem slices_Grow (n : Nat) (h0 : 0 < n) (hn : n ≤ 2000000) : Tri Tryz.prog 138 [nilS, .int .i64 n] [] (fun x h => ∃ b k, n ≤ k ∧ x = .ret (.osl b 0 k) ∧ h = [.row b (List.replicate k (.int .i64 0))]) := by
  refine Tri.enter 27 Tryz.func138 rfl rfl rfl rfl fun Fr w0 => ?_
  repeat' (first | refine AW.re 0 1 ?_ | refine AW.re 1 2 ?_ | refine AW.jt ?_ | refine AW.jf ?_ | refine AW.jj (fun hb => ?_) (fun hb => ?_) | refine AW.go ?_ | fail)
  all_goals try (exfalso; simp only [decide_eq_true_eq, decide_eq_false_iff_not] at *; omega)
  repeat' (first | (refine AW.r 3 ?_ <;> refine AL.es 2 ?_ <;> refine AL.d (AOp.cap_nil (by kernel_rfl) rfl) ?_ <;> refine AL.es 1 ?_ <;> (first | refine AL.d (AOp.len_nil (by kernel_rfl) rfl) ?_ | refine AL.d AOp.ln ?_) <;> refine AL.d AOp.sb ?_ <;> refine AL.d AOp.sb ?_ <;> refine AL.es 1 ?_ <;> refine AL.nil ?_) | refine AW.re 4 2 ?_ | refine AW.jt ?_ | refine AW.jf ?_ | refine AW.jj (fun hb => ?_) (fun hb => ?_) | refine AW.go ?_ | fail)
  · have hnx : (some (AV.int .i64 ((n : Int) - (0 - 0)))) = some (AV.int .i64 (n : Nat)) := by rw [Int.sub_zero, Int.sub_zero]
    refine AW.region_at 5 ?_
    refine AL.ev rfl rfl rfl rfl ?_
    refine AL.ev rfl rfl rfl rfl ?_
    refine AL.det (AOp.cap_nil (by kernel_rfl) rfl) rfl rfl rfl ?_
    refine AL.det (AOp.cut_nil (sz := 1) (by kernel_rfl) rfl bndIs.none (bndIs.some (i := 0) rfl rfl)) rfl rfl rfl ?_
    refine AL.ev rfl rfl rfl rfl ?_
    refine AL.append_zeros (n := n) (e := 3) (c := .int .i64 0) (z := .int .i64 0) (bytes := 8) rfl hnx h0 (by kernel_rfl) (by kernel_rfl) rfl (by omega) (by omega) rfl fun b k hk => ?_
    refine AL.ev rfl rfl rfl rfl ?_
    refine AL.det (AOp.len_nil (by kernel_rfl) rfl) rfl rfl rfl ?_
    refine AL.det (AOp.cut_osl (sz := 1) (h := 0) (by kernel_rfl) rfl (bndIs.some (i := 0) rfl rfl) (Nat.zero_le _)) rfl rfl rfl ?_
    refine AL.ev rfl rfl rfl rfl ?_
    refine AL.nil ?_
    repeat' (first | refine AW.re 6 2 ?_ | refine AW.jt ?_ | refine AW.jf ?_ | refine AW.jj (fun hb => ?_) (fun hb => ?_) | refine AW.go ?_ | fail)
    first
      | exact AW.retv rfl ⟨b, k, hk, rfl, rfl⟩
      | exact AW.donev rfl ⟨b, k, hk, rfl, rfl⟩
  · exfalso; simp only [decide_eq_false_iff_not] at hb; omega
end Go.Proofs.YtdedkpfbfklgbaaGreat
namespace Go.Proofs.YtdedkpfbfklgbaaGreat
open Go.RowKit Go.SX
set_option maxRecDepth 100000
set_option maxHeartbeats 4000000
set_option linter.unusedVariables false
set_option linter.unusedSimpArgs false
theorem flat_take {α : Type} {ls : List (List α)} {i : Nat} {x : List α} (h : ls[i]? = some x) : (ls.take (i + 1)).flatten = (ls.take i).flatten ++ x := by
  rw [List.take_add_one, h]; simp
theorem flat_le {α : Type} (ls : List (List α)) (i : Nat) : (ls.take i).flatten.length ≤ ls.flatten.length := by
  have h : ls.flatten = (ls.take i).flatten ++ (ls.drop i).flatten := by rw [← List.flatten_append, List.take_append_drop]
  rw [h, List.length_append]; omega
theorem slices_Concat (ls : List (List Int)) (hl : ls.length ≤ 4611686018427387904) (h0 : 0 < ls.flatten.length) (hn : ls.flatten.length ≤ 2000000) : Tri Tryz.prog 130 [.sl (ls.map ints)] [] (D (ints ls.flatten) []) := by
  have hG := slices_Grow ls.flatten.length h0 hn
  refine Tri.enter 36 Tryz.func130 rfl rfl rfl rfl fun Fr w0 => ?_
  repeat' (first | refine AW.re 0 1 ?_ | refine AW.re 1 1 ?_ | refine AW.re 2 3 ?_ | refine AW.jt ?_ | refine AW.jf ?_ | refine AW.jj (fun hb => ?_) (fun hb => ?_) | refine AW.go ?_ | fail)
  refine AW.prune [0, 3, 9, 10, 11] (AW.loop (fun m af h => ∃ i : Nat, i ≤ ls.length ∧ m = ls.length - i ∧ af = [(0, .sl (ls.map ints)), (3, .int .i64 ((ls.take i).flatten.length : Nat)), (9, .sl (ls.map ints)), (10, .int .i64 (ls.map ints).length), (11, .int .i64 i)] ∧ h = []) ls.length ⟨0, Nat.zero_le _, rfl, rfl, rfl⟩ ?_)
  rintro m af h ⟨i, hi, rfl, rfl, rfl⟩
  refine AW.seq ?_
  have hfl := flat_le ls i
  by_cases hlt : i < ls.length
  · obtain ⟨x, hx⟩ := get_lt hlt
    have hx' : (ls.map ints)[((i : Nat) : Int).toNat]? = some (ints x) := map_get hx
    have hf := flat_take hx
    have hfl2 := flat_le ls (i + 1)
    have hlx : ((x.map iav).length : Int) = x.length := by simp
    rw [hf, List.length_append] at hfl2
    repeat' (first | refine AW.re 3 1 ?_ | (refine AW.r 4 ?_ <;> refine AL.d (AOp.index_sl rfl rfl (by omega) hx' (by kernel_rfl) rfl) ?_ <;> refine AL.es 2 ?_ <;> refine AL.nil ?_) | (refine AW.r 5 ?_ <;> refine AL.es 3 ?_ <;> refine AL.d AOp.ad ?_ <;> refine AL.es 1 ?_ <;> refine AL.nil ?_) | refine AW.re 6 2 ?_ | (refine AW.r 8 ?_ <;> refine AL.d AOp.ad ?_ <;> refine AL.es 1 ?_ <;> refine AL.nil ?_) | refine AW.jt ?_ | refine AW.jf ?_ | refine AW.jj (fun hb => ?_) (fun hb => ?_) | refine AW.go ?_ | fail)
    all_goals first
      | (exfalso; simp only [decide_eq_true_eq, decide_eq_false_iff_not, List.length_map] at *; omega)
      | (refine AW.again_keep (ls.length - (i + 1)) [0, 3, 9, 10, 11] (by omega) ⟨i + 1, hlt, rfl, ?_, rfl⟩; rw [hf, List.length_append]; show [_, (3, AV.int .i64 (((ls.take i).flatten.length : Int) + ((x.map iav).length : Int))), _, _, _] = _; rw [hlx]; rfl)
  · have hi2 : i = ls.length := by omega
    subst hi2
    rw [List.take_length]
    repeat' (first | refine AW.re 3 1 ?_ | refine AW.jt ?_ | refine AW.jf ?_ | refine AW.jj (fun hb => ?_) (fun hb => ?_) | refine AW.go ?_ | fail)
    all_goals try (exfalso; simp only [decide_eq_true_eq, decide_eq_false_iff_not, List.length_map] at *; omega)
    refine AW.region_at 9 ?_
    refine AL.ev rfl rfl rfl rfl ?_
    refine AL.step rfl rfl (AOp.callV (args := [nilS, .int .i64 (ls.flatten.length : Nat)]) rfl (fun S w a hfr => ?_) hG) ?_ ?_
    · have h2 := aeval_rel hfr (x := .tmp 23) rfl
      simp only [RelVs]
      exact ⟨_, _, rfl, by simp [nilS, RelC, Act.eval], by simp [nilS, Shape, Act.eval], _, _, rfl, h2.1, h2.2, rfl⟩
    · rintro _ _ ⟨b, k, hk, e, rfl⟩
      injection e with e
      subst e
      refine AL.ev rfl rfl rfl rfl ?_
      refine AL.nil ?_
      repeat' (first | refine AW.re 10 3 ?_ | refine AW.jt ?_ | refine AW.jf ?_ | refine AW.jj (fun hb => ?_) (fun hb => ?_) | refine AW.go ?_ | fail)
      refine AW.prune [6, 25, 26, 27] (AW.loop (fun m af h => ∃ i : Nat, i ≤ ls.length ∧ m = ls.length - i ∧ af = [(6, .osl b (ls.take i).flatten.length k), (25, .sl (ls.map ints)), (26, .int .i64 (ls.map ints).length), (27, .int .i64 i)] ∧ h = [.row b (((ls.take i).flatten.map iav) ++ List.replicate (k - (ls.take i).flatten.length) (.int .i64 0))]) ls.length ⟨0, Nat.zero_le _, rfl, rfl, rfl⟩ ?_)
      rintro m af h ⟨i, hi, rfl, rfl, rfl⟩
      refine AW.seq ?_
      have hfl := flat_le ls i
      by_cases hlt : i < ls.length
      · obtain ⟨x, hx⟩ := get_lt hlt
        have hx' : (ls.map ints)[((i : Nat) : Int).toNat]? = some (ints x) := map_get hx
        have hf := flat_take hx
        have hfl2 := flat_le ls (i + 1)
        rw [hf, List.length_append] at hfl2
        repeat' (first | refine AW.re 11 1 ?_ | (refine AW.r 12 ?_ <;> refine AL.d (AOp.index_sl rfl rfl (by omega) hx' (by kernel_rfl) rfl) ?_ <;> refine AL.es 2 ?_ <;> refine AL.nil ?_) | (refine AW.r 13 ?_ <;> refine AL.es 2 ?_ <;> refine AL.d (AOp.append_osl (i := 0) (e := 3) (c0 := .int .i64 0) (bytes := 8) rfl rfl (by rw [List.length_append, List.length_map, List.length_replicate]; omega) rfl rfl (by kernel_rfl) (by kernel_rfl) (all_map fun _ => rfl) (ok_map fun _ => rfl) (by rw [List.length_map]; omega)) ?_ <;> refine AL.es 1 ?_ <;> refine AL.nil ?_) | (refine AW.r 14 ?_ <;> refine AL.d AOp.ad ?_ <;> refine AL.es 1 ?_ <;> refine AL.nil ?_) | refine AW.jt ?_ | refine AW.jf ?_ | refine AW.jj (fun hb => ?_) (fun hb => ?_) | refine AW.go ?_ | fail)
        all_goals try (exfalso; simp only [decide_eq_true_eq, decide_eq_false_iff_not, List.length_map] at *; omega)
        refine AW.again_keep (ls.length - (i + 1)) [6, 25, 26, 27] (by omega) ⟨i + 1, hlt, rfl, ?_, ?_⟩
        · rw [hf, List.length_append]
          show [(6, AV.osl b ((ls.take i).flatten.length + (x.map iav).length) k), _, _, _] = _
          rw [List.length_map]; rfl
        · show [Own.row b (((((ls.take i).flatten.map iav) ++ List.replicate (k - (ls.take i).flatten.length) (AV.int .i64 0)).take (ls.take i).flatten.length) ++ (x.map iav) ++ ((((ls.take i).flatten.map iav) ++ List.replicate (k - (ls.take i).flatten.length) (AV.int .i64 0)).drop ((ls.take i).flatten.length + (x.map iav).length)))] = _
          rw [hf]
          congr 2
          have e1 : ((ls.take i).flatten.map iav).length = (ls.take i).flatten.length := List.length_map _
          rw [List.take_append_of_le_length (by omega), List.take_of_length_le (by omega), List.map_append, List.append_assoc, List.append_assoc]
          congr 2
          rw [List.drop_append, List.drop_eq_nil_of_le (by rw [List.length_map]; omega), List.nil_append, List.drop_replicate]
          congr 1
          simp only [List.length_append, List.length_map]
          omega
      · have hi3 : i = ls.length := by omega
        subst hi3
        rw [List.take_length]
        repeat' (first | refine AW.re 11 1 ?_ | refine AW.jt ?_ | refine AW.jf ?_ | refine AW.jj (fun hb => ?_) (fun hb => ?_) | refine AW.go ?_ | fail)
        all_goals try (exfalso; simp only [decide_eq_true_eq, decide_eq_false_iff_not, List.length_map] at *; omega)
        refine AW.freeze_pre 0 6 rfl rfl (by rw [List.length_append, List.length_map, List.length_replicate]; omega) (fun x hx => ?_) ?_
        · rcases List.mem_append.1 hx with h | h
          · exact all_map (n := 1) (fun _ => rfl) x h
          · rw [(List.mem_replicate.1 h).2]; rfl
        repeat' (first | refine AW.re 15 2 ?_ | refine AW.jt ?_ | refine AW.jf ?_ | refine AW.jj (fun hb => ?_) (fun hb => ?_) | refine AW.go ?_ | fail)
        first | refine AW.donev rfl ⟨?_, rfl⟩ | refine AW.retv rfl ⟨?_, rfl⟩
        show AEnd.ret (.sl ((ls.flatten.map iav ++ List.replicate (k - ls.flatten.length) (AV.int .i64 0)).take ls.flatten.length)) = _
        rw [List.take_append_of_le_length (by rw [List.length_map]; omega), List.take_of_length_le (by rw [List.length_map]; omega)]
        rfl
    · rintro _ _ ⟨b, k, hk, e, _⟩; cases e
def raisedP (p : List Int) (k : Nat) : List Int := if p = [] then [] else List.replicate k 0 ++ p
theorem code_raised (p : List Int) (k : Nat) (hk : k ≤ 12) (hl : p.length ≤ 1000000) : Tri Tryz.prog 98 [ints p, .int .i64 k] [] (D (ints (raisedP p k)) []) := by
  by_cases h : p = []
  · subst h
    refine Tri.enter 13 Tryz.func98 rfl rfl rfl rfl fun Fr w0 => ?_
    repeat' (first | refine AW.re 0 1 ?_ | refine AW.re 1 3 ?_ | refine AW.re 2 1 ?_ | refine AW.jt ?_ | refine AW.jf ?_ | refine AW.jj (fun hb => ?_) (fun hb => ?_) | refine AW.go ?_ | fail)
    all_goals first
      | exact AW.retv rfl ⟨rfl, rfl⟩
      | (exfalso; simp at *; done)
  · have hpl : 0 < p.length := List.length_pos_iff.2 h
    have hC := slices_Concat [List.replicate k 0, p] (by simp) (by simp; omega) (by simp; omega)
    have hf : ([List.replicate k (0 : Int), p] : List (List Int)).flatten = List.replicate k 0 ++ p := by simp
    rw [hf] at hC
    rw [raisedP, if_neg h]
    have hlen : ((p.map iav).length : Int) = p.length := by simp
    refine Tri.enter 13 Tryz.func98 rfl rfl rfl rfl fun Fr w0 => ?_
    repeat' (first | refine AW.re 0 1 ?_ | refine AW.re 1 3 ?_ | refine AW.jt ?_ | refine AW.jf ?_ | refine AW.jj (fun hb => ?_) (fun hb => ?_) | refine AW.go ?_ | fail)
    · exfalso; simp only [beq_iff_eq] at hb; omega
    refine AW.region_at 3 ?_
    refine AL.ev rfl rfl rfl rfl ?_
    refine AL.makeSlice (n := k) (e := 3) (c := .int .i64 0) (z := .int .i64 0) (bytes := 8) rfl rfl (by kernel_rfl) rfl (by omega) (by omega) rfl fun b => ?_
    refine AL.freeze_row 0 9 rfl rfl (by simp) (fun x hx => by rw [(List.mem_replicate.1 hx).2]; rfl) ?_
    refine AL.ev rfl rfl rfl rfl ?_
    refine AL.det (AOp.lit (e := 95) (sz := 1) (by kernel_rfl) rfl rfl rfl (by simp [AV.size, ints]) (by decide)) rfl rfl rfl ?_
    have hC' : Tri Tryz.prog 130 [.sl [.sl (List.replicate k (.int .i64 0)), ints p]] [] (D (ints (List.replicate k 0 ++ p)) []) := by
      have e : ints (List.replicate k 0) = .sl (List.replicate k (.int .i64 0)) := by simp [ints, iav]
      rw [← e]; exact hC
    refine AL.det (AOp.call rfl rfl hC') rfl rfl rfl ?_
    refine AL.ev rfl rfl rfl rfl ?_
    refine AL.nil ?_
    first
      | exact AW.retv rfl ⟨rfl, rfl⟩
      | exact AW.donev rfl ⟨rfl, rfl⟩
end Go.Proofs.YtdedkpfbfklgbaaGreat
namespace Go.Proofs.YtdedkpfbfklgbaaGreat
open Go.RowKit Go.SX
set_option maxRecDepth 100000
set_option maxHeartbeats 4000000
set_option linter.unusedVariables false
set_option linter.unusedSimpArgs false
mutual
def timeS : GStmt → List Int → List Int
  | ⟨k, f, g, r, n, nm, fr, lit, regs, body, els⟩, out =>
    let o := plusP out [1]
    if k = 7 then plusP o (raisedP (timeL body []) 1) else if k = 9 then plusP o (raisedP (timeL body []) n.toNat) else if k = 8 then plusP o (joinP max (timeL body []) (timeL els [])) else o
def timeL : List GStmt → List Int → List Int
  | [], out => out
  | s :: l, out => timeL l (timeS s out)
end
theorem timeS_eq (s : GStmt) (out : List Int) : timeS s out = (let o := plusP out [1]; if s.Kind = 7 then plusP o (raisedP (timeL s.Body []) 1) else if s.Kind = 9 then plusP o (raisedP (timeL s.Body []) s.N.toNat) else if s.Kind = 8 then plusP o (joinP max (timeL s.Body []) (timeL s.Else [])) else o) := by cases s; rfl
theorem plusP_ok {p q : List Int} (hp : PolyOk p) (hq : PolyOk q) : PolyOk (plusP p q) := joinP_ok hp hq fun a b h1 h2 => by omega
theorem raisedP_ok {p : List Int} {k : Nat} (hp : PolyOk p) : PolyOk (raisedP p k) := by
  unfold raisedP
  split
  · intro x h; cases h
  · intro x h
    rcases List.mem_append.1 h with h | h
    · rw [(List.mem_replicate.1 h).2]; omega
    · exact hp x h
theorem one_ok : PolyOk [1] := by intro x h; simp at h; omega
theorem nil_ok : PolyOk [] := by intro x h; cases h
theorem raisedP_len (p : List Int) (k : Nat) : (raisedP p k).length ≤ k + p.length := by
  unfold raisedP; split
  · simp
  · simp
inductive NOk : GStmt → Prop
  | mk {s : GStmt} (h : 0 ≤ s.N ∧ s.N ≤ 12) (hb : ∀ x ∈ s.Body, NOk x) (he : ∀ x ∈ s.Else, NOk x) : NOk s
theorem NOk.n {s : GStmt} (h : NOk s) : 0 ≤ s.N ∧ s.N ≤ 12 := by cases h; assumption
theorem NOk.body {s : GStmt} (h : NOk s) : ∀ x ∈ s.Body, NOk x := by cases h; assumption
theorem NOk.els {s : GStmt} (h : NOk s) : ∀ x ∈ s.Else, NOk x := by cases h; assumption
theorem timeL_facts : ∀ (n : Nat) (l : List GStmt), cntL l ≤ n → (∀ x ∈ l, NOk x) → ∀ out, PolyOk out → PolyOk (timeL l out) ∧ (timeL l out).length ≤ max out.length (13 * cntL l) := by
  intro n
  induction n using Nat.strongRecOn with
  | _ n ih =>
    intro l hn hl
    induction l with
    | nil => intro out ho; rw [timeL]; exact ⟨ho, by omega⟩
    | cons s l ihl =>
      intro out ho
      have hs := hl s (by simp)
      have hcs := cntS_eq s
      have hcl : cntL (s :: l) = cntS s + cntL l := rfl
      have hN := hs.n
      have f1 := ih (cntL s.Body) (by omega) s.Body (Nat.le_refl _) hs.body [] nil_ok
      have f2 := ih (cntL s.Else) (by omega) s.Else (Nat.le_refl _) hs.els [] nil_ok
      have ho1 := plusP_ok ho one_ok
      have lo1 : (plusP out [1]).length = max out.length 1 := joinP_len _ _ _
      have key : PolyOk (timeS s out) ∧ (timeS s out).length ≤ max out.length (13 * cntS s) := by
        rw [timeS_eq]
        simp only
        simp only [List.length_nil] at f1 f2
        split
        · refine ⟨plusP_ok ho1 (raisedP_ok f1.1), ?_⟩
          have h1 : (plusP (plusP out [1]) (raisedP (timeL s.Body []) 1)).length = _ := joinP_len _ _ _
          have h2 := raisedP_len (timeL s.Body []) 1
          rw [h1]; omega
        · split
          · refine ⟨plusP_ok ho1 (raisedP_ok f1.1), ?_⟩
            have h1 : (plusP (plusP out [1]) (raisedP (timeL s.Body []) s.N.toNat)).length = _ := joinP_len _ _ _
            have h2 := raisedP_len (timeL s.Body []) s.N.toNat
            rw [h1]; omega
          · split
            · refine ⟨plusP_ok ho1 (joinP_ok f1.1 f2.1 fun a b h1 h2 => by omega), ?_⟩
              have h1 : (plusP (plusP out [1]) (joinP max (timeL s.Body []) (timeL s.Else []))).length = _ := joinP_len _ _ _
              rw [h1, joinP_len]; omega
            · exact ⟨ho1, by omega⟩
      rw [timeL]
      have h3 := ihl (by omega) (fun x hx => hl x (by simp [hx])) (timeS s out) key.1
      exact ⟨h3.1, by omega⟩
theorem code_time : ∀ (n : Nat) (l : List GStmt), cntL l ≤ n → cntL l ≤ 50000 → l.length ≤ 4611686018427387904 → (∀ x ∈ l, x.Ok) → (∀ x ∈ l, NOk x) → Tri Tryz.prog 42 [.sl (l.map GStmt.av)] [] (D (ints (timeL l [])) []) := by
  intro n
  induction n using Nat.strongRecOn with
  | _ n ih =>
    intro l hn hc hl hok hno
    refine Tri.enter 48 Tryz.func42 rfl rfl rfl rfl fun Fr w0 => ?_
    repeat' (first | refine AW.re 0 1 ?_ | refine AW.re 1 1 ?_ | refine AW.re 2 3 ?_ | refine AW.jt ?_ | refine AW.jf ?_ | refine AW.jj (fun hb => ?_) (fun hb => ?_) | refine AW.go ?_ | fail)
    refine AW.prune [3, 6, 7, 8] (AW.loop (fun m af h => ∃ (i : Nat) (out : List Int), i ≤ l.length ∧ m = l.length - i ∧ af = [(3, ints out), (6, .sl (l.map GStmt.av)), (7, .int .i64 (l.map GStmt.av).length), (8, .int .i64 i)] ∧ h = [] ∧ PolyOk out ∧ out.length ≤ 13 * 50000 ∧ timeL l [] = timeL (l.drop i) out) l.length ⟨0, [], Nat.zero_le _, rfl, rfl, rfl, nil_ok, by simp, rfl⟩ ?_)
    rintro m af h ⟨i, out, hi, rfl, rfl, rfl, ho, hol, he⟩
    refine AW.seq ?_
    by_cases hlt : i < l.length
    · obtain ⟨x, hx⟩ := get_lt hlt
      have hx' : (l.map GStmt.av)[((i : Nat) : Int).toNat]? = some x.st := GStmt.get hx
      have hxm := List.mem_of_getElem? hx
      have hxc := cnt_mem hxm
      have hcs := cntS_eq x
      have hxo := hok x hxm
      have hxn := hno x hxm
      obtain ⟨_, hb1, hb2, he1, he2⟩ := id hxo
      have hN := hxn.n
      have f1 := timeL_facts (cntL x.Body) x.Body (Nat.le_refl _) hxn.body [] nil_ok
      have f2 := timeL_facts (cntL x.Else) x.Else (Nat.le_refl _) hxn.els [] nil_ok
      simp only [List.length_nil] at f1 f2
      have t1 := ih (cntL x.Body) (by omega) x.Body (Nat.le_refl _) (by omega) (by omega) hb2 hxn.body
      have t2 := ih (cntL x.Else) (by omega) x.Else (Nat.le_refl _) (by omega) (by omega) he2 hxn.els
      have c1 := code_plus out [1] ho one_ok (by omega) (by simp)
      have ho1 := plusP_ok ho one_ok
      have lo1 : (plusP out [1]).length = max out.length 1 := joinP_len _ _ _
      have r1 := code_raised (timeL x.Body []) 1 (by omega) (by omega)
      have r2 := code_raised (timeL x.Body []) x.N.toNat (by omega) (by omega)
      rw [Int.toNat_of_nonneg hN.1] at r2
      have l1 := raisedP_len (timeL x.Body []) 1
      have l2 := raisedP_len (timeL x.Body []) x.N.toNat
      have j1 := code_joined (timeL x.Body []) (timeL x.Else []) f1.1 f2.1 (by omega) (by omega) 100 max (fun a b _ _ => time1 a b)
      have lj : (joinP max (timeL x.Body []) (timeL x.Else [])).length = _ := joinP_len _ _ _
      have p1 := code_plus (plusP out [1]) (raisedP (timeL x.Body []) 1) ho1 (raisedP_ok f1.1) (by omega) (by omega)
      have p2 := code_plus (plusP out [1]) (raisedP (timeL x.Body []) x.N.toNat) ho1 (raisedP_ok f1.1) (by omega) (by omega)
      have p3 := code_plus (plusP out [1]) (joinP max (timeL x.Body []) (timeL x.Else [])) ho1 (joinP_ok f1.1 f2.1 fun a b h1 h2 => by omega) (by omega) (by omega)
      have q1 : (plusP (plusP out [1]) (raisedP (timeL x.Body []) 1)).length = _ := joinP_len _ _ _
      have q2 : (plusP (plusP out [1]) (raisedP (timeL x.Body []) x.N.toNat)).length = _ := joinP_len _ _ _
      have q3 : (plusP (plusP out [1]) (joinP max (timeL x.Body []) (timeL x.Else []))).length = _ := joinP_len _ _ _
      rw [drop_cons hx, timeL, timeS_eq] at he
      simp only at he
      repeat' (first | refine AW.re 0 1 ?_ | refine AW.re 1 1 ?_ | refine AW.re 2 3 ?_ | refine AW.re 3 1 ?_ | (refine AW.r 4 ?_ <;> refine AL.d (AOp.index_sl rfl rfl (by omega) hx' (by kernel_rfl) rfl) ?_ <;> refine AL.es 1 ?_ <;> refine AL.alloc_store (by kernel_rfl) rfl rfl rfl rfl ?_ <;> refine AL.nil ?_) | (refine AW.r 5 ?_ <;> refine AL.es 1 ?_ <;> refine AL.d (AOp.lit (e := 3) (sz := 1) (by kernel_rfl) rfl rfl rfl (by simp [AV.size, ofConst]) (by decide)) ?_ <;> (first | refine AL.d (AOp.call rfl rfl c1) ?_ | refine AL.d (AOp.call rfl rfl t1) ?_ | refine AL.d (AOp.call rfl rfl t2) ?_ | refine AL.d (AOp.call rfl rfl r1) ?_ | refine AL.d (AOp.call rfl rfl r2) ?_ | refine AL.d (AOp.call rfl rfl j1) ?_ | refine AL.d (AOp.call rfl rfl p1) ?_ | refine AL.d (AOp.call rfl rfl p2) ?_ | refine AL.d (AOp.call rfl rfl p3) ?_) <;> refine AL.es 1 ?_ <;> refine AL.nil ?_) | refine AW.re 6 2 ?_ | refine AW.re 7 2 ?_ | (refine AW.r 8 ?_ <;> refine AL.es 3 ?_ <;> (first | refine AL.d (AOp.call rfl rfl c1) ?_ | refine AL.d (AOp.call rfl rfl t1) ?_ | refine AL.d (AOp.call rfl rfl t2) ?_ | refine AL.d (AOp.call rfl rfl r1) ?_ | refine AL.d (AOp.call rfl rfl r2) ?_ | refine AL.d (AOp.call rfl rfl j1) ?_ | refine AL.d (AOp.call rfl rfl p1) ?_ | refine AL.d (AOp.call rfl rfl p2) ?_ | refine AL.d (AOp.call rfl rfl p3) ?_) <;> (first | refine AL.d (AOp.call rfl rfl c1) ?_ | refine AL.d (AOp.call rfl rfl t1) ?_ | refine AL.d (AOp.call rfl rfl t2) ?_ | refine AL.d (AOp.call rfl rfl r1) ?_ | refine AL.d (AOp.call rfl rfl r2) ?_ | refine AL.d (AOp.call rfl rfl j1) ?_ | refine AL.d (AOp.call rfl rfl p1) ?_ | refine AL.d (AOp.call rfl rfl p2) ?_ | refine AL.d (AOp.call rfl rfl p3) ?_) <;> (first | refine AL.d (AOp.call rfl rfl c1) ?_ | refine AL.d (AOp.call rfl rfl t1) ?_ | refine AL.d (AOp.call rfl rfl t2) ?_ | refine AL.d (AOp.call rfl rfl r1) ?_ | refine AL.d (AOp.call rfl rfl r2) ?_ | refine AL.d (AOp.call rfl rfl j1) ?_ | refine AL.d (AOp.call rfl rfl p1) ?_ | refine AL.d (AOp.call rfl rfl p2) ?_ | refine AL.d (AOp.call rfl rfl p3) ?_) <;> refine AL.es 1 ?_ <;> refine AL.nil ?_) | refine AW.re 9 2 ?_ | (refine AW.dq 10 ?_ <;> refine AQ.es 3 ?_ <;> (first | refine AQ.p rfl (AOp.call rfl rfl c1) ?_ | refine AQ.p rfl (AOp.call rfl rfl t1) ?_ | refine AQ.p rfl (AOp.call rfl rfl t2) ?_ | refine AQ.p rfl (AOp.call rfl rfl r1) ?_ | refine AQ.p rfl (AOp.call rfl rfl r2) ?_ | refine AQ.p rfl (AOp.call rfl rfl j1) ?_ | refine AQ.p rfl (AOp.call rfl rfl p1) ?_ | refine AQ.p rfl (AOp.call rfl rfl p2) ?_ | refine AQ.p rfl (AOp.call rfl rfl p3) ?_) <;> refine AQ.es 2 ?_ <;> (first | refine AQ.p rfl (AOp.call rfl rfl c1) ?_ | refine AQ.p rfl (AOp.call rfl rfl t1) ?_ | refine AQ.p rfl (AOp.call rfl rfl t2) ?_ | refine AQ.p rfl (AOp.call rfl rfl r1) ?_ | refine AQ.p rfl (AOp.call rfl rfl r2) ?_ | refine AQ.p rfl (AOp.call rfl rfl j1) ?_ | refine AQ.p rfl (AOp.call rfl rfl p1) ?_ | refine AQ.p rfl (AOp.call rfl rfl p2) ?_ | refine AQ.p rfl (AOp.call rfl rfl p3) ?_) <;> (first | refine AQ.p rfl (AOp.call rfl rfl c1) ?_ | refine AQ.p rfl (AOp.call rfl rfl t1) ?_ | refine AQ.p rfl (AOp.call rfl rfl t2) ?_ | refine AQ.p rfl (AOp.call rfl rfl r1) ?_ | refine AQ.p rfl (AOp.call rfl rfl r2) ?_ | refine AQ.p rfl (AOp.call rfl rfl j1) ?_ | refine AQ.p rfl (AOp.call rfl rfl p1) ?_ | refine AQ.p rfl (AOp.call rfl rfl p2) ?_ | refine AQ.p rfl (AOp.call rfl rfl p3) ?_) <;> refine AQ.es 1 ?_ <;> refine AQ.nil ?_) | refine AW.re 11 2 ?_ | (refine AW.dq 12 ?_ <;> refine AQ.es 3 ?_ <;> (first | refine AQ.p rfl (AOp.call rfl rfl c1) ?_ | refine AQ.p rfl (AOp.call rfl rfl t1) ?_ | refine AQ.p rfl (AOp.call rfl rfl t2) ?_ | refine AQ.p rfl (AOp.call rfl rfl r1) ?_ | refine AQ.p rfl (AOp.call rfl rfl r2) ?_ | refine AQ.p rfl (AOp.call rfl rfl j1) ?_ | refine AQ.p rfl (AOp.call rfl rfl p1) ?_ | refine AQ.p rfl (AOp.call rfl rfl p2) ?_ | refine AQ.p rfl (AOp.call rfl rfl p3) ?_) <;> refine AQ.es 2 ?_ <;> (first | refine AQ.p rfl (AOp.call rfl rfl c1) ?_ | refine AQ.p rfl (AOp.call rfl rfl t1) ?_ | refine AQ.p rfl (AOp.call rfl rfl t2) ?_ | refine AQ.p rfl (AOp.call rfl rfl r1) ?_ | refine AQ.p rfl (AOp.call rfl rfl r2) ?_ | refine AQ.p rfl (AOp.call rfl rfl j1) ?_ | refine AQ.p rfl (AOp.call rfl rfl p1) ?_ | refine AQ.p rfl (AOp.call rfl rfl p2) ?_ | refine AQ.p rfl (AOp.call rfl rfl p3) ?_) <;> (first | refine AQ.p rfl (AOp.call rfl rfl c1) ?_ | refine AQ.p rfl (AOp.call rfl rfl t1) ?_ | refine AQ.p rfl (AOp.call rfl rfl t2) ?_ | refine AQ.p rfl (AOp.call rfl rfl r1) ?_ | refine AQ.p rfl (AOp.call rfl rfl r2) ?_ | refine AQ.p rfl (AOp.call rfl rfl j1) ?_ | refine AQ.p rfl (AOp.call rfl rfl p1) ?_ | refine AQ.p rfl (AOp.call rfl rfl p2) ?_ | refine AQ.p rfl (AOp.call rfl rfl p3) ?_) <;> (first | refine AQ.p rfl (AOp.call rfl rfl c1) ?_ | refine AQ.p rfl (AOp.call rfl rfl t1) ?_ | refine AQ.p rfl (AOp.call rfl rfl t2) ?_ | refine AQ.p rfl (AOp.call rfl rfl r1) ?_ | refine AQ.p rfl (AOp.call rfl rfl r2) ?_ | refine AQ.p rfl (AOp.call rfl rfl j1) ?_ | refine AQ.p rfl (AOp.call rfl rfl p1) ?_ | refine AQ.p rfl (AOp.call rfl rfl p2) ?_ | refine AQ.p rfl (AOp.call rfl rfl p3) ?_) <;> refine AQ.es 1 ?_ <;> refine AQ.nil ?_) | (refine AW.r 13 ?_ <;> refine AL.d AOp.ad ?_ <;> refine AL.es 1 ?_ <;> refine AL.nil ?_) | refine AW.re 14 2 ?_ | refine AW.jt ?_ | refine AW.jf ?_ | refine AW.jj (fun hb => ?_) (fun hb => ?_) | refine AW.go ?_ | fail)
      all_goals try (exfalso; simp only [decide_eq_true_eq, decide_eq_false_iff_not, List.length_map, beq_iff_eq, beq_eq_false_iff_ne, ne_eq] at *; omega)
      all_goals simp only [beq_iff_eq, beq_eq_false_iff_ne, ne_eq] at *
      all_goals first
        | exact AW.again_keep (l.length - (i + 1)) [3, 6, 7, 8] (by omega) ⟨i + 1, plusP (plusP out [1]) (raisedP (timeL x.Body []) 1), hlt, rfl, rfl, rfl, plusP_ok ho1 (raisedP_ok f1.1), by omega, by rw [he, if_pos (by assumption)]⟩
        | exact AW.again_keep (l.length - (i + 1)) [3, 6, 7, 8] (by omega) ⟨i + 1, plusP (plusP out [1]) (raisedP (timeL x.Body []) x.N.toNat), hlt, rfl, rfl, rfl, plusP_ok ho1 (raisedP_ok f1.1), by omega, by rw [he, if_neg (by assumption), if_pos (by assumption)]⟩
        | exact AW.again_keep (l.length - (i + 1)) [3, 6, 7, 8] (by omega) ⟨i + 1, plusP (plusP out [1]) (joinP max (timeL x.Body []) (timeL x.Else [])), hlt, rfl, rfl, rfl, plusP_ok ho1 (joinP_ok f1.1 f2.1 fun a b h1 h2 => by omega), by omega, by rw [he, if_neg (by assumption), if_neg (by assumption), if_pos (by assumption)]⟩
        | exact AW.again_keep (l.length - (i + 1)) [3, 6, 7, 8] (by omega) ⟨i + 1, plusP out [1], hlt, rfl, rfl, rfl, ho1, by omega, by rw [he, if_neg (by assumption), if_neg (by assumption), if_neg (by assumption)]⟩
    · rw [List.drop_eq_nil_of_le (by omega), timeL] at he
      repeat' (first | refine AW.re 3 1 ?_ | refine AW.re 14 2 ?_ | refine AW.jt ?_ | refine AW.jf ?_ | refine AW.jj (fun hb => ?_) (fun hb => ?_) | refine AW.go ?_ | fail)
      all_goals first
        | (exfalso; simp only [decide_eq_true_eq, decide_eq_false_iff_not, List.length_map] at *; omega)
        | exact AW.retv rfl ⟨by rw [he], rfl⟩
        | exact AW.donev rfl ⟨by rw [he], rfl⟩
end Go.Proofs.YtdedkpfbfklgbaaGreat
namespace Go.Proofs.YtdedkpfbfklgbaaGreat
open Go.RowKit Go.SX
set_option maxRecDepth 100000
set_option maxHeartbeats 4000000
set_option linter.unusedVariables false
set_option linter.unusedSimpArgs false
def addF (g : Bool) (a b : Int) : Int := if g then max a b else a + b
def Bd (p : List Int) : Prop := ∀ x ∈ p, 0 ≤ x ∧ x ≤ 1000000
section
variable {C : Cx} {ds : List Deferred} {ks : List K} {af : AF} {ah : AH} {ops : Array Oper} {rest : List Oper}
end
end Go.Proofs.YtdedkpfbfklgbaaGreat
namespace Go.Proofs.YtdedkpfbfklgbaaGreat
open Go.RowKit Go.SX
set_option maxRecDepth 100000
set_option maxHeartbeats 4000000
set_option linter.unusedVariables false
set_option linter.unusedSimpArgs false
theorem wgt_cnt (most : Int) : ∀ (n : Nat) (l : List GStmt), cntL l ≤ n → (∀ x ∈ l, x.Ok) → ∀ a, a ≤ wgtL most l a ∧ (wgtL most l a ≤ most → a + cntL l ≤ wgtL most l a) := by
  intro n
  induction n using Nat.strongRecOn with
  | _ n ih =>
    intro l hn hl
    induction l with
    | nil => intro a; rw [wgtL]; exact ⟨Int.le_refl _, fun _ => by show a + (0 : Nat) ≤ a; omega⟩
    | cons s l ihl =>
      intro a
      have hs := hl s (by simp)
      have hcs := cntS_eq s
      have hcl : cntL (s :: l) = cntS s + cntL l := rfl
      have hw := ownW_le hs
      obtain ⟨_, _, hb, _, he⟩ := hs
      have h1 := ih (cntL s.Body) (by omega) s.Body (Nat.le_refl _) hb (a + ownW s)
      have h2 := ih (cntL s.Else) (by omega) s.Else (Nat.le_refl _) he (wgtL most s.Body (a + ownW s))
      have h3 := ihl (by omega) (fun x hx => hl x (by simp [hx])) (wgtS most s a)
      rw [wgtS_eq] at h3
      rw [wgtL]
      split
      · rw [wgtS_eq]
        exact ⟨by omega, fun h => by have := h3.2 h; have := h2.2 (by omega); have := h1.2 (by omega); omega⟩
      · exact ⟨Int.le_refl _, fun h => by omega⟩
theorem few_cnt_ {most : Nat} {c : GCode} (hc : c.Ok) (h : fewC c most = true) : cntL c.Body ≤ most := by
  simp only [fewC, Bool.and_eq_true, decide_eq_true_eq] at h
  have := (wgt_cnt most (cntL c.Body) c.Body (Nat.le_refl _) hc.2.2.2.2 0).2 h.2
  omega
def pv (n : Int) : List Int → Int
  | [] => 0
  | a :: p => a + n * pv n p
def sumP : List Int → Int
  | [] => 0
  | a :: p => a + sumP p
mutual
def costS (n : Int) : GStmt → Int
  | ⟨k, f, g, r, nn, nm, fr, lit, regs, body, els⟩ => if k = 7 then n * costL n body else if k = 9 then n ^ nn.toNat * costL n body else if k = 8 then max (costL n body) (costL n els) else 0
def costL (n : Int) : List GStmt → Int
  | [] => 0
  | s :: l => 1 + costS n s + costL n l
end
end Go.Proofs.YtdedkpfbfklgbaaGreat
namespace Go.Proofs.YtdedkpfbfklgbaaGreat
open Go.RowKit Go.SX
set_option maxRecDepth 100000
set_option maxHeartbeats 4000000
set_option linter.unusedVariables false
set_option linter.unusedSimpArgs false
theorem Bd.ok {p : List Int} (h : Bd p) : PolyOk p := fun x hx => by have := h x hx; omega
end Go.Proofs.YtdedkpfbfklgbaaGreat
