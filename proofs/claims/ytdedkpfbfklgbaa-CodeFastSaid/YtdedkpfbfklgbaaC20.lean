/- The machine's course, as a relation; it keeps what fits. -/
import Derived.Test.YtdedkpfbfklgbaaC19
namespace Go.Proofs.Ytdedkpfbfklgbaa
open Go.RowKit Go.SX
set_option maxRecDepth 100000
set_option maxHeartbeats 4000000
set_option linter.unusedVariables false
set_option linter.unusedSimpArgs false

inductive Task
  | s (x : GStmt)
  | l (xs : List GStmt)
  | e (r : Int) (xs : List GStmt) (i : Nat)
  | t (xs : List GStmt) (k : Nat)
  | r (xs : List GStmt) (k j : Nat)
def MS.setR (m : MS) (r : Int) (v : Int) : MS := { m with regs := m.regs.set r.toNat v }
/-- From m the task comes to m'; some e: the run stops there with the error e. -/
inductive Ex (E : Env) : Task → MS → Option Int → MS → Prop
  | nil {m} : Ex E (.l []) m none m
  | stop {x xs m} (h : ¬ m.steps < E.fuel) : Ex E (.l (x :: xs)) m (some 7) m
  | bad {x xs m e m'} (h : m.steps < E.fuel) (h1 : Ex E (.s x) m.step (some e) m') : Ex E (.l (x :: xs)) m (some e) m'
  | cons {x xs m m1 o m2} (h : m.steps < E.fuel) (h1 : Ex E (.s x) m.step none m1) (h2 : Ex E (.l xs) m1 o m2) : Ex E (.l (x :: xs)) m o m2
  | prim {x m} (h : isPrim x.Kind) : Ex E (.s x) m none (prim E.n x m)
  | gbad {x m} (h : x.Kind = 12) (h1 : (E.G.length : Int) - m.used < (m.rels x.Name).length) : Ex E (.s x) m (some 2) m
  | gok {x m} (h : x.Kind = 12) (h1 : ¬ (E.G.length : Int) - m.used < (m.rels x.Name).length) : Ex E (.s x) m none (m.guess E.G x)
  | each {x m o m'} (h : x.Kind = 7) (h1 : Ex E (.e x.R x.Body 0) m o m') : Ex E (.s x) m o m'
  | eend {r xs m} {i : Nat} (h : ¬ (i : Int) < E.n) : Ex E (.e r xs i) m none m
  | ebad {r xs m e m'} {i : Nat} (h : (i : Int) < E.n) (h1 : Ex E (.l xs) (m.setR r i) (some e) m') : Ex E (.e r xs i) m (some e) m'
  | estep {r xs m m1 o m2} {i : Nat} (h : (i : Int) < E.n) (h1 : Ex E (.l xs) (m.setR r i) none m1) (h2 : Ex E (.e r xs (i + 1)) m1 o m2) : Ex E (.e r xs i) m o m2
  | cond {x m o m'} (h : x.Kind = 8) (h1 : Ex E (.l (if flagAt m.flags x.F = true then x.Body else x.Else)) m o m') : Ex E (.s x) m o m'
  | t0 {x m} (h : x.Kind = 9) (h1 : x.Body = []) : Ex E (.s x) m none m
  | t1 {x m o m'} (h : x.Kind = 9) (h1 : x.Body ≠ []) (h2 : Ex E (.t x.Body x.N.toNat) m o m') : Ex E (.s x) m o m'
  | tz {xs m o m'} (h1 : Ex E (.l xs) m o m') : Ex E (.t xs 0) m o m'
  | ts {xs k m o m'} (h1 : Ex E (.r xs k E.n.toNat) m o m') : Ex E (.t xs (k + 1)) m o m'
  | rz {xs k m} : Ex E (.r xs k 0) m none m
  | rbad {xs k j m e m'} (h1 : Ex E (.t xs k) m (some e) m') : Ex E (.r xs k (j + 1)) m (some e) m'
  | rstep {xs k j m m1 o m2} (h1 : Ex E (.t xs k) m none m1) (h2 : Ex E (.r xs k j) m1 o m2) : Ex E (.r xs k (j + 1)) m o m2
  | ubad {x m e m'} (h : x.Kind = 10) (h1 : Ex E (.l x.Body) m (some e) m') : Ex E (.s x) m (some e) m'
  | uend {x m m1} (h : x.Kind = 10) (h1 : Ex E (.l x.Body) m none m1) (h2 : flagAt m1.flags x.F = true) : Ex E (.s x) m none m1
  | ustop {x m m1} (h : x.Kind = 10) (h1 : Ex E (.l x.Body) m none m1) (h2 : flagAt m1.flags x.F = false) (h3 : ¬ m1.steps < E.fuel) : Ex E (.s x) m (some 7) m1
  | ustep {x m m1 o m2} (h : x.Kind = 10) (h1 : Ex E (.l x.Body) m none m1) (h2 : flagAt m1.flags x.F = false) (h3 : m1.steps < E.fuel) (h4 : Ex E (.s x) m1.step o m2) : Ex E (.s x) m o m2
def endV : Option Int → AEnd
  | none => .ret (.tup [])
  | some e => .pan (stopV e)
def Post (F R : Nat) (sig : ByteArray → Option Nat) (E : Env) (B : Blk) (T : Task) (m : MS) : AEnd → AH → Prop :=
  fun x h => ∃ o m', Ex E T m o m' ∧ MFit F R sig E B m' ∧ m.steps ≤ m'.steps ∧ h = m'.ah E B ∧ x = endV o
section
variable {F R : Nat} {sig : ByteArray → Option Nat} {E : Env} {B : Blk} {m : MS}
theorem MFit.step (hm : MFit F R sig E B m) (h : m.steps < E.fuel) : MFit F R sig E B m.step := { hm with steps := ⟨by have := hm.steps.1; show 0 ≤ m.steps + 1; omega, by show m.steps + 1 ≤ E.fuel; omega⟩ }
theorem MFit.setF (hm : MFit F R sig E B m) (f : Int) (b : Bool) : MFit F R sig E B (m.setF f b) := { hm with flen := by rw [← hm.flen]; simp [MS.setF] }
theorem MFit.setR (hm : MFit F R sig E B m) (r v : Int) (hv : 0 ≤ v ∧ v < E.n) : MFit F R sig E B (m.setR r v) := { hm with
  rlen := by rw [← hm.rlen]; simp [MS.setR]
  regs := fun x hx => by
    rcases List.mem_or_eq_of_mem_set hx with h | h
    · exact hm.regs x h
    · rw [h]; exact hv }
theorem MFit.upd (hm : MFit F R sig E B m) (k : ByteArray) (xs : List Bool) (hx : xs.length = (m.rels k).length) (u : Int) (hu : 0 ≤ u ∧ u ≤ E.G.length) : MFit F R sig E B { m with rels := upd m.rels k xs, used := u } := { hm with
  used := hu
  sig := fun k' a h => by
    obtain ⟨h1, h2, h3⟩ := hm.sig k' a h
    refine ⟨h1, ?_, h3⟩
    show ((Go.Proofs.Ytdedkpfbfklgbaa.upd m.rels k xs k').length : Int) = _
    by_cases e : k' = k
    · subst e; rw [upd_same, hx]; exact h2
    · rw [upd_ne _ _ e]; exact h2 }
theorem MFit.prim (hm : MFit F R sig E B m) (s : GStmt) (hs : Fit F R sig s) : MFit F R sig E B (prim E.n s m) := by
  unfold Go.Proofs.Ytdedkpfbfklgbaa.prim
  repeat' split
  all_goals first
    | exact hm.setF _ _
    | exact hm.upd _ _ (by simp) m.used hm.used
    | skip
  rename_i h
  obtain ⟨a, ha⟩ := hs.name (by rw [h]; rfl)
  have ha2 := (hs.frm (by rw [h]; rfl)).trans ha
  have h1 := (hm.sig _ _ ha).2.1
  have h2 := (hm.sig _ _ ha2).2.1
  exact hm.upd _ _ (by omega) m.used hm.used
theorem MFit.guess (hm : MFit F R sig E B m) (s : GStmt) (h : ¬ (E.G.length : Int) - m.used < (m.rels s.Name).length) : MFit F R sig E B (m.guess E.G s) := by
  have hu := hm.used
  exact hm.upd _ _ (by simp; omega) _ (by omega)
end
/-- The function of a kind. -/
def fnOf (k : Int) : FuncId :=
  if k = 0 then 44 else if k = 1 then 46 else if k = 2 then 47 else if k = 3 then 48 else if k = 4 then 49 else if k = 5 then 50 else if k = 6 then 51 else if k = 7 then 53 else if k = 8 then 54 else if k = 9 then 55 else if k = 10 then 56 else if k = 11 then 58 else if k = 12 then 59 else if k = 13 then 60 else 61
theorem find_run {k : Int} (h : 0 ≤ k ∧ k < 15) : ∃ j, mfind (.int .i64 k) runKV 0 = some (j, .fn (fnOf k) []) := by
  have : k = 0 ∨ k = 1 ∨ k = 2 ∨ k = 3 ∨ k = 4 ∨ k = 5 ∨ k = 6 ∨ k = 7 ∨ k = 8 ∨ k = 9 ∨ k = 10 ∨ k = 11 ∨ k = 12 ∨ k = 13 ∨ k = 14 := by omega
  rcases this with rfl | rfl | rfl | rfl | rfl | rfl | rfl | rfl | rfl | rfl | rfl | rfl | rfl | rfl | rfl <;> exact ⟨_, rfl⟩
end Go.Proofs.Ytdedkpfbfklgbaa
