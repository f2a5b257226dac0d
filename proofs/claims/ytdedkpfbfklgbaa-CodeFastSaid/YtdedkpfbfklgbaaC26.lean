/- What Run computes. -/
import Derived.Test.YtdedkpfbfklgbaaC25
namespace Go.Proofs.Ytdedkpfbfklgbaa
open Go.RowKit Go.SX
set_option maxRecDepth 100000
set_option maxHeartbeats 4000000
set_option linter.unusedVariables false
set_option linter.unusedSimpArgs false

def tabGo (n : Int) : List (List Int) → List Bool → List Bool
  | [], xs => xs
  | t :: ts, xs => tabGo n ts (xs.set (rankR n t).1.toNat true)
def tableR (s : GStr) (k : ByteArray) (ar : Int) : List Bool :=
  match s.Rels[(findI s k ar).toNat]? with
  | some r => tabGo s.Size r.Tuples (List.replicate (powerR s.Size r.Arity).1.toNat false)
  | none => []
def initR (s : GStr) (st : Chk) (k : ByteArray) : List Bool :=
  match lookA st.A k with
  | some a => List.replicate (powerR s.Size a).1.toNat false
  | none => match lookA st.S k with
    | some a => tableR s k a
    | none => []
def m0 (c : GCode) (s : GStr) : MS := ⟨List.replicate c.Flags.toNat false, List.replicate c.Regs.toNat 0, initR s (checkedP c), 0, 0⟩
structure RunOk (c : GCode) (s : GStr) (fuel : Int) : Prop where
  bad : (checkedP c).bad = false
  valid : validStr s = true
  found : ∀ p ∈ (checkedP c).S, 0 ≤ findI s p.1 p.2
  fuel : 0 ≤ fuel ∧ fuel ≤ 10000000
  size : ∀ a ∈ c.Arrays, (powerR s.Size a.Arity).2 = 0
inductive RunR (c : GCode) (s : GStr) (G : List Bool) (fuel : Int) : Bool → Int → Int → Int → Prop
  | form (h : (checkedP c).bad = true ∨ validStr s = false) : RunR c s G fuel false 0 0 1
  | name (h1 : (checkedP c).bad = false) (h2 : validStr s = true) (p : ByteArray × Int) (hp : p ∈ (checkedP c).S) (h : findI s p.1 p.2 < 0) : RunR c s G fuel false 0 0 4
  | arg (h1 : (checkedP c).bad = false) (h2 : validStr s = true) (h3 : ∀ p ∈ (checkedP c).S, 0 ≤ findI s p.1 p.2) (h : fuel < 0 ∨ fuel > 10000000) : RunR c s G fuel false 0 0 2
  | size (h1 : (checkedP c).bad = false) (h2 : validStr s = true) (h3 : ∀ p ∈ (checkedP c).S, 0 ≤ findI s p.1 p.2) (h4 : 0 ≤ fuel ∧ fuel ≤ 10000000) (a : GSym) (ha : a ∈ c.Arrays) (h : (powerR s.Size a.Arity).2 ≠ 0) : RunR c s G fuel false 0 0 5
  | ok (h : RunOk c s fuel) {m : MS} (hx : Ex ⟨s.Size, G, fuel⟩ (.l c.Body) (m0 c s) none m) : RunR c s G fuel (flagAt m.flags 0) m.steps m.used 0
  | stop (h : RunOk c s fuel) {e : Int} {m : MS} (hx : Ex ⟨s.Size, G, fuel⟩ (.l c.Body) (m0 c s) (some e) m) : RunR c s G fuel false 0 0 e
/-- What the check of a program yields. -/
structure ChkOk (c : GCode) : Prop where
  flags : 1 ≤ c.Flags ∧ c.Flags ≤ 1000
  regs : 0 ≤ c.Regs ∧ c.Regs ≤ 60
  keys : ((checkedP c).S.map (·.1)).Nodup
  arrs : (c.Arrays.map (·.Name)).Nodup
  apart : ∀ a ∈ c.Arrays, a.Name ∉ (checkedP c).S.map (·.1)
  look : ∀ a ∈ c.Arrays, lookA (checkedP c).A a.Name = some a.Arity
  only : ∀ k n, lookA (checkedP c).A k = some n → ∃ a ∈ c.Arrays, a.Name = k ∧ a.Arity = n
  ar : ∀ a ∈ c.Arrays, 0 ≤ a.Arity ∧ a.Arity ≤ 12
  sar : ∀ p ∈ (checkedP c).S, 0 ≤ p.2 ∧ p.2 ≤ 12
  body : ∀ x ∈ c.Body, SFit c.Flags.toNat c.Regs.toNat (fun k => match lookA (checkedP c).A k with | some a => some a.toNat | none => (lookA (checkedP c).S k).map Int.toNat) x
end Go.Proofs.Ytdedkpfbfklgbaa
