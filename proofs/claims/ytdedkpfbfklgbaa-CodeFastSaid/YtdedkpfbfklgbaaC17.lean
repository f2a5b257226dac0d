/- The machine: what its heap looks like, what its statements do. -/
import Derived.Test.YtdedkpfbfklgbaaC16
namespace Go.Proofs.Ytdedkpfbfklgbaa
open Go.RowKit Go.SX
set_option maxRecDepth 100000
set_option linter.unusedVariables false
set_option linter.unusedSimpArgs false

/-- What a run's course depends on, beside the statements. -/
structure Env where
  n : Int
  G : List Bool
  fuel : Int
structure MS where
  flags : List Bool
  regs : List Int
  rels : ByteArray → List Bool
  used : Int
  steps : Int
/-- Where it lies. -/
structure Blk where
  mb : Nat
  fb : Nat
  rb : Nat
  lb : Nat
  ub : Nat
  names : List ByteArray
  bk : ByteArray → Nat
  gl : MG
  gu : MG
def runKV : List (AV × AV) := [(.int .i64 0, .fn 44 []), (.int .i64 1, .fn 46 []), (.int .i64 2, .fn 47 []), (.int .i64 3, .fn 48 []), (.int .i64 4, .fn 49 []), (.int .i64 5, .fn 50 []), (.int .i64 6, .fn 51 []), (.int .i64 7, .fn 53 []), (.int .i64 8, .fn 54 []), (.int .i64 9, .fn 55 []), (.int .i64 10, .fn 56 []), (.int .i64 11, .fn 58 []), (.int .i64 12, .fn 59 []), (.int .i64 13, .fn 60 []), (.int .i64 14, .fn 61 [])]
def oslv (q : Nat × Nat) : AV := .osl q.1 q.2 q.2
def relA (B : Blk) (m : MS) : List (ByteArray × (Nat × Nat)) := B.names.map fun k => (k, (B.bk k, (m.rels k).length))
def MS.box (E : Env) (B : Blk) (m : MS) : AV := .st [.int .i64 E.n, .osl B.fb m.flags.length m.flags.length, .osl B.rb m.regs.length m.regs.length, .map B.lb, bools E.G, .int .i64 m.used, .int .i64 m.steps, .int .i64 E.fuel, .map B.ub]
def MS.ah (E : Env) (B : Blk) (m : MS) : AH := .box B.mb (m.box E B) :: .row B.fb (m.flags.map bav) :: .row B.rb (m.regs.map iav) :: .map B.lb (kvW oslv (relA B m)) B.gl :: .map B.ub runKV B.gu :: B.names.map fun k => .row (B.bk k) ((m.rels k).map bav)

def upd (f : ByteArray → List Bool) (k : ByteArray) (xs : List Bool) : ByteArray → List Bool := fun k' => if k' = k then xs else f k'
theorem upd_same (f : ByteArray → List Bool) (k : ByteArray) (xs : List Bool) : upd f k xs k = xs := by simp [upd]
theorem upd_ne (f : ByteArray → List Bool) {k k' : ByteArray} (xs : List Bool) (h : k' ≠ k) : upd f k xs k' = f k' := by simp [upd, h]
theorem look_rel (B : Blk) (m : MS) {k : ByteArray} (h : k ∈ B.names) : lookA (relA B m) k = some (B.bk k, (m.rels k).length) := by
  unfold relA
  generalize B.names = l at h
  induction l with
  | nil => cases h
  | cons a l ih =>
    simp only [List.map_cons, lookA]
    by_cases hk : k = a
    · subst hk; simp
    · rw [if_neg hk]; exact ih (by simpa [hk] using h)
theorem row_at (E : Env) (B : Blk) (m : MS) {k : ByteArray} (h : k ∈ B.names) : ∃ j, B.names[j]? = some k ∧ (m.ah E B)[j + 5]? = some (.row (B.bk k) ((m.rels k).map bav)) := by
  obtain ⟨j, hj⟩ := List.getElem?_of_mem h
  exact ⟨j, hj, by show (B.names.map _)[j]? = _; rw [List.getElem?_map, hj]; rfl⟩
theorem map_set {α β : Type} [DecidableEq α] {l : List α} (hn : l.Nodup) {f g : α → β} {j : Nat} {k : α} (hj : l[j]? = some k) (h : ∀ a, a ≠ k → g a = f a) : (l.map f).set j (g k) = l.map g := by
  induction l generalizing j with
  | nil => cases hj
  | cons a l ih =>
    rw [List.nodup_cons] at hn
    cases j with
    | zero =>
      simp only [List.getElem?_cons_zero, Option.some.injEq] at hj
      subst hj
      simp only [List.map_cons, List.set_cons_zero]
      congr 1
      exact List.map_congr_left fun b hb => (h b fun e => hn.1 (e ▸ hb)).symm
    | succ j =>
      simp only [List.getElem?_cons_succ] at hj
      simp only [List.map_cons, List.set_cons_succ]
      rw [ih hn.2 hj, h a fun e => hn.1 (by rw [e]; exact List.mem_of_getElem? hj)]
theorem ah_setrow (E : Env) (B : Blk) (m : MS) {k : ByteArray} {j : Nat} (hn : B.names.Nodup) (hj : B.names[j]? = some k) (xs : List Bool) (hl : xs.length = (m.rels k).length) :
    (m.ah E B).set (j + 5) (.row (B.bk k) (xs.map bav)) = ({ m with rels := upd m.rels k xs } : MS).ah E B := by
  have h1 : relA B { m with rels := upd m.rels k xs } = relA B m := by
    unfold relA
    refine List.map_congr_left fun a _ => ?_
    by_cases ha : a = k
    · subst ha; simp [upd_same, hl]
    · simp [upd_ne _ _ ha]
  unfold MS.ah
  rw [h1]
  simp only [List.set_cons_succ]
  have := map_set (f := fun k => Own.row (B.bk k) ((m.rels k).map bav)) (g := fun a => Own.row (B.bk a) ((upd m.rels k xs a).map bav)) hn hj (fun a ha => by simp [upd_ne _ _ ha])
  simp only [upd_same] at this
  rw [this]
  rfl

def regAt (regs : List Int) (x : Int) : Int := (regs[x.toNat]?).getD 0
def flagAt (fl : List Bool) (x : Int) : Bool := (fl[x.toNat]?).getD false
def rankM (n : Int) (regs : List Int) : List Int → Int → Int
  | [], r => r
  | x :: l, r => rankM n regs l (r * n + regAt regs x)
def holdsM (n : Int) (m : MS) (l : GLit) : Bool :=
  (if l.Kind = 0 then flagAt (m.rels l.Name) (rankM n m.regs l.At 0) else if l.Kind = 1 then decide (regAt m.regs (l.At.getD 0 0) = regAt m.regs (l.At.getD 1 0)) else decide (regAt m.regs (l.At.getD 0 0) < regAt m.regs (l.At.getD 1 0))) != l.Neg
def MS.setF (m : MS) (f : Int) (b : Bool) : MS := { m with flags := m.flags.set f.toNat b }
/-- What a statement without parts does. -/
def prim (n : Int) (s : GStmt) (m : MS) : MS :=
  if s.Kind = 0 then m.setF s.F (holdsM n m s.Lit)
  else if s.Kind = 1 then m.setF s.F (!flagAt m.flags s.G)
  else if s.Kind = 2 then m.setF s.F (flagAt m.flags s.F && flagAt m.flags s.G)
  else if s.Kind = 3 then m.setF s.F (flagAt m.flags s.F || flagAt m.flags s.G)
  else if s.Kind = 4 then m.setF s.F (decide (s.G = 1))
  else if s.Kind = 5 then m.setF s.F (flagAt m.flags s.G)
  else if s.Kind = 6 then { m with rels := upd m.rels s.Name ((m.rels s.Name).set (rankM n m.regs s.Regs 0).toNat (flagAt m.flags s.F)) }
  else if s.Kind = 11 then { m with rels := upd m.rels s.Name (List.replicate (m.rels s.Name).length false) }
  else if s.Kind = 13 then { m with rels := upd m.rels s.Name (m.rels s.From) }
  else m.setF s.F (decide (m.rels s.Name = m.rels s.From))
def isPrim (k : Int) : Prop := 0 ≤ k ∧ k ≤ 6 ∨ k = 11 ∨ k = 13 ∨ k = 14
/-- A statement's own fields fit: F flags, R registers, sig the arrays' and symbols' arities. -/
structure Fit (F R : Nat) (sig : ByteArray → Option Nat) (s : GStmt) : Prop where
  kind : 0 ≤ s.Kind ∧ s.Kind < 15
  f : (useOf s.Kind).f = true → 0 ≤ s.F ∧ s.F < F
  g : (useOf s.Kind).g = true → s.Kind ≠ 4 → 0 ≤ s.G ∧ s.G < F
  r : (useOf s.Kind).r = true → 0 ≤ s.R ∧ s.R < R
  n : 0 ≤ s.N ∧ s.N ≤ 12
  name : (useOf s.Kind).name = true → ∃ a, sig s.Name = some a
  store : (useOf s.Kind).regs = true → sig s.Name = some s.Regs.length
  regs : ∀ x ∈ s.Regs, 0 ≤ x ∧ x < R
  frm : (useOf s.Kind).frm = true → sig s.From = sig s.Name
  lit : (useOf s.Kind).lit = true → (∀ x ∈ s.Lit.At, 0 ≤ x ∧ x < R) ∧ (if s.Lit.Kind = 1 ∨ s.Lit.Kind = 2 then s.Lit.At.length = 2 else s.Lit.Kind = 0 ∧ sig s.Lit.Name = some s.Lit.At.length)
inductive SFit (F R : Nat) (sig : ByteArray → Option Nat) : GStmt → Prop
  | mk {s : GStmt} (h : Fit F R sig s) (hb : ∀ x ∈ s.Body, SFit F R sig x) (he : ∀ x ∈ s.Else, SFit F R sig x) : SFit F R sig s
/-- A state fits. -/
structure MFit (F R : Nat) (sig : ByteArray → Option Nat) (E : Env) (B : Blk) (m : MS) : Prop where
  n : 1 ≤ E.n ∧ E.n ≤ 64
  fuel : 0 ≤ E.fuel ∧ E.fuel ≤ 10000000
  glen : E.G.length ≤ 4611686018427387904
  flen : m.flags.length = F
  fl : 1 ≤ F ∧ F ≤ 1000
  rlen : m.regs.length = R
  rl : R ≤ 60
  regs : ∀ x ∈ m.regs, 0 ≤ x ∧ x < E.n
  used : 0 ≤ m.used ∧ m.used ≤ E.G.length
  steps : 0 ≤ m.steps ∧ m.steps ≤ E.fuel
  nodup : B.names.Nodup
  sig : ∀ k a, sig k = some a → k ∈ B.names ∧ ((m.rels k).length : Int) = E.n ^ a ∧ E.n ^ a ≤ 4096
end Go.Proofs.Ytdedkpfbfklgbaa
