/- Contracts: steps and guesses. -/
import Derived.Test.YtdedkpfbfklgbaaC18
namespace Go.Proofs.Ytdedkpfbfklgbaa
open Go.RowKit Go.SX
set_option maxRecDepth 100000
set_option maxHeartbeats 4000000
set_option linter.unusedVariables false
set_option linter.unusedSimpArgs false

/-- What a run panics with. -/
def stopV (e : Int) : AV := .val (.iface 80 (.int .i64 e))
def MS.step (m : MS) : MS := { m with steps := m.steps + 1 }
section
variable {F R : Nat} {sig : ByteArray → Option Nat} {E : Env} {B : Blk} {m : MS}
theorem mach_step_ok (hm : MFit F R sig E B m) (h : m.steps < E.fuel) : Tri Try.prog 57 [.ref B.mb 0] (m.ah E B) (D (.tup []) (m.step.ah E B)) := by
  have h1 := hm.fuel
  have h2 := hm.steps
  refine Tri.enter 19 Try.func57 rfl rfl rfl rfl fun Fr w0 => ?_
  repeat' (first
    | refine AW.seq ?_
    | (refine AW.draw_at 0 rfl (by kernel_rfl) (by kernel_rfl) ?_ <;> refine AQ.ev rfl rfl rfl rfl ?_ <;> refine AQ.ev rfl rfl rfl rfl ?_ <;> (first | refine AQ.op rfl (AOp.field_at rfl rfl (by kernel_rfl) rfl) rfl rfl ?_ | refine AQ.op rfl (AOp.field_ref (off := 6) rfl (by kernel_rfl)) rfl rfl ?_) <;> (first | refine AQ.op rfl (AOp.load_at rfl rfl (by kernel_rfl)) rfl rfl ?_ | refine AQ.op rfl (AOp.load_leaf 0 rfl rfl rfl rfl (by kernel_rfl)) rfl rfl ?_ | refine AQ.op rfl (AOp.load_all 0 rfl rfl rfl (by kernel_rfl)) rfl rfl ?_) <;> refine AQ.ev rfl rfl rfl rfl ?_ <;> refine AQ.ev rfl rfl rfl rfl ?_ <;> (first | refine AQ.op rfl (AOp.field_at rfl rfl (by kernel_rfl) rfl) rfl rfl ?_ | refine AQ.op rfl (AOp.field_ref (off := 7) rfl (by kernel_rfl)) rfl rfl ?_) <;> (first | refine AQ.op rfl (AOp.load_at rfl rfl (by kernel_rfl)) rfl rfl ?_ | refine AQ.op rfl (AOp.load_leaf 0 rfl rfl rfl rfl (by kernel_rfl)) rfl rfl ?_ | refine AQ.op rfl (AOp.load_all 0 rfl rfl rfl (by kernel_rfl)) rfl rfl ?_) <;> (first | refine AQ.ev rfl rfl rfl rfl ?_ | refine AQ.op rfl (AOp.add rfl rfl (by omega)) rfl rfl ?_ | refine AQ.op rfl (AOp.sub rfl rfl (by omega)) rfl rfl ?_ | refine AQ.op rfl (AOp.bool_eq (by kernel_rfl) rfl rfl) rfl rfl ?_ | refine AQ.op rfl (AOp.bool_ne (by kernel_rfl) rfl rfl) rfl rfl ?_) <;> refine AQ.nil ?_)
    | (refine AW.region_at 1 ?_ <;> refine AL.det (AOp.iface rfl rfl (by kernel_rfl)) rfl rfl rfl ?_ <;> fail)
    | (refine AW.region_at 2 ?_ <;> refine AL.ev rfl rfl rfl rfl ?_ <;> refine AL.ev rfl rfl rfl rfl ?_ <;> (first | refine AL.det (AOp.field_at rfl rfl (by kernel_rfl) rfl) rfl rfl rfl ?_ | refine AL.det (AOp.field_ref (off := 6) rfl (by kernel_rfl)) rfl rfl rfl ?_) <;> (first | refine AL.det (AOp.load_at rfl rfl (by kernel_rfl)) rfl rfl rfl ?_ | refine AL.det (AOp.load_leaf 0 rfl rfl rfl rfl (by kernel_rfl)) rfl rfl rfl ?_ | refine AL.det (AOp.load_all 0 rfl rfl rfl (by kernel_rfl)) rfl rfl rfl ?_) <;> (first | refine AL.ev rfl rfl rfl rfl ?_ | refine AL.det (AOp.add rfl rfl (by omega)) rfl rfl rfl ?_ | refine AL.det (AOp.sub rfl rfl (by omega)) rfl rfl rfl ?_ | refine AL.det (AOp.bool_eq (by kernel_rfl) rfl rfl) rfl rfl rfl ?_ | refine AL.det (AOp.bool_ne (by kernel_rfl) rfl rfl) rfl rfl rfl ?_) <;> refine AL.ev rfl rfl rfl rfl ?_ <;> (first | refine AL.det (AOp.field_at rfl rfl (by kernel_rfl) rfl) rfl rfl rfl ?_ | refine AL.det (AOp.field_ref (off := 6) rfl (by kernel_rfl)) rfl rfl rfl ?_) <;> refine AL.store_leaf 0 rfl rfl rfl rfl rfl (by kernel_rfl) ?_ <;> refine AL.nil ?_)
    | refine AW.cond_true rfl ?_
    | refine AW.cond_false rfl ?_
    | refine AW.block ?_
    | refine AW.endblk ?_
    | refine AW.skip ?_
    | refine AW.exit rfl ?_
    | refine AW.label ?_
    | refine AW.cond rfl (fun hb => ?_) (fun hb => ?_))
  all_goals first
    | (exfalso; simp only [decide_eq_true_eq, decide_eq_false_iff_not] at *; omega)
    | exact AW.donev rfl ⟨rfl, rfl⟩
theorem mach_step_bad (hm : MFit F R sig E B m) (h : ¬ m.steps < E.fuel) : Tri Try.prog 57 [.ref B.mb 0] (m.ah E B) (fun x h => x = .pan (stopV 7) ∧ h = m.ah E B) := by
  have h1 := hm.fuel
  have h2 := hm.steps
  refine Tri.enter 19 Try.func57 rfl rfl rfl rfl fun Fr w0 => ?_
  repeat' (first
    | refine AW.seq ?_
    | (refine AW.draw_at 0 rfl (by kernel_rfl) (by kernel_rfl) ?_ <;> refine AQ.ev rfl rfl rfl rfl ?_ <;> refine AQ.ev rfl rfl rfl rfl ?_ <;> (first | refine AQ.op rfl (AOp.field_at rfl rfl (by kernel_rfl) rfl) rfl rfl ?_ | refine AQ.op rfl (AOp.field_ref (off := 6) rfl (by kernel_rfl)) rfl rfl ?_) <;> (first | refine AQ.op rfl (AOp.load_at rfl rfl (by kernel_rfl)) rfl rfl ?_ | refine AQ.op rfl (AOp.load_leaf 0 rfl rfl rfl rfl (by kernel_rfl)) rfl rfl ?_ | refine AQ.op rfl (AOp.load_all 0 rfl rfl rfl (by kernel_rfl)) rfl rfl ?_) <;> refine AQ.ev rfl rfl rfl rfl ?_ <;> refine AQ.ev rfl rfl rfl rfl ?_ <;> (first | refine AQ.op rfl (AOp.field_at rfl rfl (by kernel_rfl) rfl) rfl rfl ?_ | refine AQ.op rfl (AOp.field_ref (off := 7) rfl (by kernel_rfl)) rfl rfl ?_) <;> (first | refine AQ.op rfl (AOp.load_at rfl rfl (by kernel_rfl)) rfl rfl ?_ | refine AQ.op rfl (AOp.load_leaf 0 rfl rfl rfl rfl (by kernel_rfl)) rfl rfl ?_ | refine AQ.op rfl (AOp.load_all 0 rfl rfl rfl (by kernel_rfl)) rfl rfl ?_) <;> (first | refine AQ.ev rfl rfl rfl rfl ?_ | refine AQ.op rfl (AOp.add rfl rfl (by omega)) rfl rfl ?_ | refine AQ.op rfl (AOp.sub rfl rfl (by omega)) rfl rfl ?_ | refine AQ.op rfl (AOp.bool_eq (by kernel_rfl) rfl rfl) rfl rfl ?_ | refine AQ.op rfl (AOp.bool_ne (by kernel_rfl) rfl rfl) rfl rfl ?_) <;> refine AQ.nil ?_)
    | (refine AW.region_at 1 ?_ <;> refine AL.det (AOp.iface rfl rfl (by kernel_rfl)) rfl rfl rfl ?_ <;> refine AL.panic rfl rfl ?_)
    | (refine AW.region_at 2 ?_ <;> refine AL.ev rfl rfl rfl rfl ?_ <;> refine AL.ev rfl rfl rfl rfl ?_ <;> (first | refine AL.det (AOp.field_at rfl rfl (by kernel_rfl) rfl) rfl rfl rfl ?_ | refine AL.det (AOp.field_ref (off := 6) rfl (by kernel_rfl)) rfl rfl rfl ?_) <;> (first | refine AL.det (AOp.load_at rfl rfl (by kernel_rfl)) rfl rfl rfl ?_ | refine AL.det (AOp.load_leaf 0 rfl rfl rfl rfl (by kernel_rfl)) rfl rfl rfl ?_ | refine AL.det (AOp.load_all 0 rfl rfl rfl (by kernel_rfl)) rfl rfl rfl ?_) <;> (first | refine AL.ev rfl rfl rfl rfl ?_ | refine AL.det (AOp.add rfl rfl (by omega)) rfl rfl rfl ?_ | refine AL.det (AOp.sub rfl rfl (by omega)) rfl rfl rfl ?_ | refine AL.det (AOp.bool_eq (by kernel_rfl) rfl rfl) rfl rfl rfl ?_ | refine AL.det (AOp.bool_ne (by kernel_rfl) rfl rfl) rfl rfl rfl ?_) <;> refine AL.ev rfl rfl rfl rfl ?_ <;> (first | refine AL.det (AOp.field_at rfl rfl (by kernel_rfl) rfl) rfl rfl rfl ?_ | refine AL.det (AOp.field_ref (off := 6) rfl (by kernel_rfl)) rfl rfl rfl ?_) <;> refine AL.store_leaf 0 rfl rfl rfl rfl rfl (by kernel_rfl) ?_ <;> refine AL.nil ?_)
    | refine AW.cond_true rfl ?_
    | refine AW.cond_false rfl ?_
    | refine AW.block ?_
    | refine AW.endblk ?_
    | refine AW.skip ?_
    | refine AW.exit rfl ?_
    | refine AW.label ?_
    | refine AW.cond rfl (fun hb => ?_) (fun hb => ?_))
  all_goals first
    | (exfalso; simp only [decide_eq_true_eq, decide_eq_false_iff_not] at *; omega)
    | exact APan.of ⟨rfl, rfl⟩
def MS.guess (G : List Bool) (s : GStmt) (m : MS) : MS :=
  { m with rels := upd m.rels s.Name ((G.drop m.used.toNat).take (m.rels s.Name).length), used := m.used + (m.rels s.Name).length }
theorem mach_guess_bad (hm : MFit F R sig E B m) (s : GStmt) (hs : Fit F R sig s) (hk : s.Kind = 12) (h : (E.G.length : Int) - m.used < (m.rels s.Name).length) : Tri Try.prog 59 [.ref B.mb 0, s.st] (m.ah E B) (fun x h => x = .pan (stopV 2) ∧ h = m.ah E B) := by
  obtain ⟨a, ha⟩ := hs.name (by rw [hk]; rfl)
  obtain ⟨hin, hlen, hle⟩ := hm.sig _ _ ha
  have hlk := look_rel B m hin
  have hu := hm.used
  have hgl := hm.glen
  have hgl2 : ((E.G.map bav).length : Int) = E.G.length := by simp
  refine Tri.enter 46 Try.func59 rfl rfl rfl rfl fun Fr w0 => ?_
  repeat' (first
    | refine AW.seq ?_
    | (refine AW.region_at 0 ?_ <;> refine AL.det (AOp.box_ro rfl rfl) rfl rfl rfl ?_ <;> refine AL.nil ?_)
    | (refine AW.draw_at 1 rfl (by kernel_rfl) (by kernel_rfl) ?_ <;> refine AQ.ev rfl rfl rfl rfl ?_ <;> refine AQ.ev rfl rfl rfl rfl ?_ <;> (first | refine AQ.op rfl (AOp.field_at rfl rfl (by kernel_rfl) rfl) rfl rfl ?_ | refine AQ.op rfl (AOp.field_ref (off := 3) rfl (by kernel_rfl)) rfl rfl ?_) <;> (first | refine AQ.op rfl (AOp.load_at rfl rfl (by kernel_rfl)) rfl rfl ?_ | refine AQ.op rfl (AOp.load_leaf 0 rfl rfl rfl rfl (by kernel_rfl)) rfl rfl ?_ | refine AQ.op rfl (AOp.load_all 0 rfl rfl rfl (by kernel_rfl)) rfl rfl ?_) <;> (first | refine AQ.op rfl (AOp.field_at rfl rfl (by kernel_rfl) rfl) rfl rfl ?_ | refine AQ.op rfl (AOp.field_ref (off := 5) rfl (by kernel_rfl)) rfl rfl ?_) <;> (first | refine AQ.op rfl (AOp.load_at rfl rfl (by kernel_rfl)) rfl rfl ?_ | refine AQ.op rfl (AOp.load_leaf 0 rfl rfl rfl rfl (by kernel_rfl)) rfl rfl ?_ | refine AQ.op rfl (AOp.load_all 0 rfl rfl rfl (by kernel_rfl)) rfl rfl ?_) <;> refine AQ.op rfl (AOp.lookS_hit (g := oslv) (ok := false) 3 29 hlk rfl rfl rfl (by kernel_rfl)) rfl rfl ?_ <;> refine AQ.ev rfl rfl rfl rfl ?_ <;> refine AQ.nil ?_)
    | (refine AW.draw_at 2 rfl (by kernel_rfl) (by kernel_rfl) ?_ <;> refine AQ.ev rfl rfl rfl rfl ?_ <;> refine AQ.ev rfl rfl rfl rfl ?_ <;> (first | refine AQ.op rfl (AOp.field_at rfl rfl (by kernel_rfl) rfl) rfl rfl ?_ | refine AQ.op rfl (AOp.field_ref (off := 4) rfl (by kernel_rfl)) rfl rfl ?_) <;> (first | refine AQ.op rfl (AOp.load_at rfl rfl (by kernel_rfl)) rfl rfl ?_ | refine AQ.op rfl (AOp.load_leaf 0 rfl rfl rfl rfl (by kernel_rfl)) rfl rfl ?_ | refine AQ.op rfl (AOp.load_all 0 rfl rfl rfl (by kernel_rfl)) rfl rfl ?_) <;> refine AQ.op rfl (AOp.len rfl rfl (by kernel_rfl)) rfl rfl ?_ <;> refine AQ.ev rfl rfl rfl rfl ?_ <;> refine AQ.ev rfl rfl rfl rfl ?_ <;> (first | refine AQ.op rfl (AOp.field_at rfl rfl (by kernel_rfl) rfl) rfl rfl ?_ | refine AQ.op rfl (AOp.field_ref (off := 5) rfl (by kernel_rfl)) rfl rfl ?_) <;> (first | refine AQ.op rfl (AOp.load_at rfl rfl (by kernel_rfl)) rfl rfl ?_ | refine AQ.op rfl (AOp.load_leaf 0 rfl rfl rfl rfl (by kernel_rfl)) rfl rfl ?_ | refine AQ.op rfl (AOp.load_all 0 rfl rfl rfl (by kernel_rfl)) rfl rfl ?_) <;> (first | refine AQ.ev rfl rfl rfl rfl ?_ | refine AQ.op rfl (AOp.add rfl rfl (by omega)) rfl rfl ?_ | refine AQ.op rfl (AOp.sub rfl rfl (by omega)) rfl rfl ?_ | refine AQ.op rfl (AOp.bool_eq (by kernel_rfl) rfl rfl) rfl rfl ?_ | refine AQ.op rfl (AOp.bool_ne (by kernel_rfl) rfl rfl) rfl rfl ?_) <;> refine AQ.ev rfl rfl rfl rfl ?_ <;> refine AQ.op rfl (AOp.len rfl rfl (by kernel_rfl)) rfl rfl ?_ <;> (first | refine AQ.ev rfl rfl rfl rfl ?_ | refine AQ.op rfl (AOp.add rfl rfl (by omega)) rfl rfl ?_ | refine AQ.op rfl (AOp.sub rfl rfl (by omega)) rfl rfl ?_ | refine AQ.op rfl (AOp.bool_eq (by kernel_rfl) rfl rfl) rfl rfl ?_ | refine AQ.op rfl (AOp.bool_ne (by kernel_rfl) rfl rfl) rfl rfl ?_) <;> refine AQ.nil ?_)
    | (refine AW.region_at 3 ?_ <;> refine AL.det (AOp.iface rfl rfl (by kernel_rfl)) rfl rfl rfl ?_ <;> refine AL.panic rfl rfl ?_)
    | (refine AW.draw_last_at 4 10 rfl (by kernel_rfl) (by kernel_rfl) (by kernel_rfl) (by kernel_rfl) ?_ <;> refine AQ.ev rfl rfl rfl rfl ?_ <;> refine AQ.ev rfl rfl rfl rfl ?_ <;> refine AQ.ev rfl rfl rfl rfl ?_ <;> (first | refine AQ.op rfl (AOp.field_at rfl rfl (by kernel_rfl) rfl) rfl rfl ?_ | refine AQ.op rfl (AOp.field_ref (off := 4) rfl (by kernel_rfl)) rfl rfl ?_) <;> (first | refine AQ.op rfl (AOp.load_at rfl rfl (by kernel_rfl)) rfl rfl ?_ | refine AQ.op rfl (AOp.load_leaf 0 rfl rfl rfl rfl (by kernel_rfl)) rfl rfl ?_ | refine AQ.op rfl (AOp.load_all 0 rfl rfl rfl (by kernel_rfl)) rfl rfl ?_) <;> refine AQ.ev rfl rfl rfl rfl ?_ <;> refine AQ.ev rfl rfl rfl rfl ?_ <;> (first | refine AQ.op rfl (AOp.field_at rfl rfl (by kernel_rfl) rfl) rfl rfl ?_ | refine AQ.op rfl (AOp.field_ref (off := 5) rfl (by kernel_rfl)) rfl rfl ?_) <;> (first | refine AQ.op rfl (AOp.load_at rfl rfl (by kernel_rfl)) rfl rfl ?_ | refine AQ.op rfl (AOp.load_leaf 0 rfl rfl rfl rfl (by kernel_rfl)) rfl rfl ?_ | refine AQ.op rfl (AOp.load_all 0 rfl rfl rfl (by kernel_rfl)) rfl rfl ?_) <;> fail <;> refine AQ.nil ?_ <;> fail <;> refine AL.nil ?_)
    | (refine AW.region_at 5 ?_ <;> refine AL.ev rfl rfl rfl rfl ?_ <;> refine AL.ev rfl rfl rfl rfl ?_ <;> (first | refine AL.det (AOp.field_at rfl rfl (by kernel_rfl) rfl) rfl rfl rfl ?_ | refine AL.det (AOp.field_ref (off := 5) rfl (by kernel_rfl)) rfl rfl rfl ?_) <;> (first | refine AL.det (AOp.load_at rfl rfl (by kernel_rfl)) rfl rfl rfl ?_ | refine AL.det (AOp.load_leaf 0 rfl rfl rfl rfl (by kernel_rfl)) rfl rfl rfl ?_ | refine AL.det (AOp.load_all 0 rfl rfl rfl (by kernel_rfl)) rfl rfl rfl ?_) <;> refine AL.ev rfl rfl rfl rfl ?_ <;> refine AL.det (AOp.len rfl rfl (by kernel_rfl)) rfl rfl rfl ?_ <;> (first | refine AL.ev rfl rfl rfl rfl ?_ | refine AL.det (AOp.add rfl rfl (by omega)) rfl rfl rfl ?_ | refine AL.det (AOp.sub rfl rfl (by omega)) rfl rfl rfl ?_ | refine AL.det (AOp.bool_eq (by kernel_rfl) rfl rfl) rfl rfl rfl ?_ | refine AL.det (AOp.bool_ne (by kernel_rfl) rfl rfl) rfl rfl rfl ?_) <;> refine AL.ev rfl rfl rfl rfl ?_ <;> (first | refine AL.det (AOp.field_at rfl rfl (by kernel_rfl) rfl) rfl rfl rfl ?_ | refine AL.det (AOp.field_ref (off := 5) rfl (by kernel_rfl)) rfl rfl rfl ?_) <;> refine AL.store_leaf 0 rfl rfl rfl rfl rfl (by kernel_rfl) ?_ <;> refine AL.nil ?_)
    | refine AW.cond_true rfl ?_
    | refine AW.cond_false rfl ?_
    | refine AW.block ?_
    | refine AW.endblk ?_
    | refine AW.skip ?_
    | refine AW.exit rfl ?_
    | refine AW.label ?_
    | refine AW.cond rfl (fun hb => ?_) (fun hb => ?_))
  all_goals first
    | (exfalso; simp only [decide_eq_true_eq, decide_eq_false_iff_not] at *; omega)
    | exact APan.of ⟨rfl, rfl⟩
theorem mach_guess_ok (hm : MFit F R sig E B m) (s : GStmt) (hs : Fit F R sig s) (hk : s.Kind = 12) (h : ¬ (E.G.length : Int) - m.used < (m.rels s.Name).length) : Tri Try.prog 59 [.ref B.mb 0, s.st] (m.ah E B) (D (.tup []) ((m.guess E.G s).ah E B)) := by
  obtain ⟨a, ha⟩ := hs.name (by rw [hk]; rfl)
  obtain ⟨hin, hlen, hle⟩ := hm.sig _ _ ha
  obtain ⟨j, hj, hrow⟩ := row_at E B m hin
  have hlk := look_rel B m hin
  have hu := hm.used
  have hgl := hm.glen
  have hgl2 : ((E.G.map bav).length : Int) = E.G.length := by simp
  have hmin : (m.rels s.Name).length = Nat.min (((E.G.map bav).take (E.G.map bav).length).drop m.used.toNat).length (m.rels s.Name).length := by
    refine (Nat.min_eq_right ?_).symm
    simp only [List.length_drop, List.length_take, List.length_map, Nat.min_self]
    omega
  refine Tri.enter 46 Try.func59 rfl rfl rfl rfl fun Fr w0 => ?_
  repeat' (first
    | refine AW.seq ?_
    | (refine AW.region_at 0 ?_ <;> refine AL.det (AOp.box_ro rfl rfl) rfl rfl rfl ?_ <;> refine AL.nil ?_)
    | (refine AW.draw_at 1 rfl (by kernel_rfl) (by kernel_rfl) ?_ <;> refine AQ.ev rfl rfl rfl rfl ?_ <;> refine AQ.ev rfl rfl rfl rfl ?_ <;> (first | refine AQ.op rfl (AOp.field_at rfl rfl (by kernel_rfl) rfl) rfl rfl ?_ | refine AQ.op rfl (AOp.field_ref (off := 3) rfl (by kernel_rfl)) rfl rfl ?_) <;> (first | refine AQ.op rfl (AOp.load_at rfl rfl (by kernel_rfl)) rfl rfl ?_ | refine AQ.op rfl (AOp.load_leaf 0 rfl rfl rfl rfl (by kernel_rfl)) rfl rfl ?_ | refine AQ.op rfl (AOp.load_all 0 rfl rfl rfl (by kernel_rfl)) rfl rfl ?_) <;> (first | refine AQ.op rfl (AOp.field_at rfl rfl (by kernel_rfl) rfl) rfl rfl ?_ | refine AQ.op rfl (AOp.field_ref (off := 5) rfl (by kernel_rfl)) rfl rfl ?_) <;> (first | refine AQ.op rfl (AOp.load_at rfl rfl (by kernel_rfl)) rfl rfl ?_ | refine AQ.op rfl (AOp.load_leaf 0 rfl rfl rfl rfl (by kernel_rfl)) rfl rfl ?_ | refine AQ.op rfl (AOp.load_all 0 rfl rfl rfl (by kernel_rfl)) rfl rfl ?_) <;> refine AQ.op rfl (AOp.lookS_hit (g := oslv) (ok := false) 3 29 hlk rfl rfl rfl (by kernel_rfl)) rfl rfl ?_ <;> refine AQ.ev rfl rfl rfl rfl ?_ <;> refine AQ.nil ?_)
    | (refine AW.draw_at 2 rfl (by kernel_rfl) (by kernel_rfl) ?_ <;> refine AQ.ev rfl rfl rfl rfl ?_ <;> refine AQ.ev rfl rfl rfl rfl ?_ <;> (first | refine AQ.op rfl (AOp.field_at rfl rfl (by kernel_rfl) rfl) rfl rfl ?_ | refine AQ.op rfl (AOp.field_ref (off := 4) rfl (by kernel_rfl)) rfl rfl ?_) <;> (first | refine AQ.op rfl (AOp.load_at rfl rfl (by kernel_rfl)) rfl rfl ?_ | refine AQ.op rfl (AOp.load_leaf 0 rfl rfl rfl rfl (by kernel_rfl)) rfl rfl ?_ | refine AQ.op rfl (AOp.load_all 0 rfl rfl rfl (by kernel_rfl)) rfl rfl ?_) <;> refine AQ.op rfl (AOp.len rfl rfl (by kernel_rfl)) rfl rfl ?_ <;> refine AQ.ev rfl rfl rfl rfl ?_ <;> refine AQ.ev rfl rfl rfl rfl ?_ <;> (first | refine AQ.op rfl (AOp.field_at rfl rfl (by kernel_rfl) rfl) rfl rfl ?_ | refine AQ.op rfl (AOp.field_ref (off := 5) rfl (by kernel_rfl)) rfl rfl ?_) <;> (first | refine AQ.op rfl (AOp.load_at rfl rfl (by kernel_rfl)) rfl rfl ?_ | refine AQ.op rfl (AOp.load_leaf 0 rfl rfl rfl rfl (by kernel_rfl)) rfl rfl ?_ | refine AQ.op rfl (AOp.load_all 0 rfl rfl rfl (by kernel_rfl)) rfl rfl ?_) <;> (first | refine AQ.ev rfl rfl rfl rfl ?_ | refine AQ.op rfl (AOp.add rfl rfl (by omega)) rfl rfl ?_ | refine AQ.op rfl (AOp.sub rfl rfl (by omega)) rfl rfl ?_ | refine AQ.op rfl (AOp.bool_eq (by kernel_rfl) rfl rfl) rfl rfl ?_ | refine AQ.op rfl (AOp.bool_ne (by kernel_rfl) rfl rfl) rfl rfl ?_) <;> refine AQ.ev rfl rfl rfl rfl ?_ <;> refine AQ.op rfl (AOp.len rfl rfl (by kernel_rfl)) rfl rfl ?_ <;> (first | refine AQ.ev rfl rfl rfl rfl ?_ | refine AQ.op rfl (AOp.add rfl rfl (by omega)) rfl rfl ?_ | refine AQ.op rfl (AOp.sub rfl rfl (by omega)) rfl rfl ?_ | refine AQ.op rfl (AOp.bool_eq (by kernel_rfl) rfl rfl) rfl rfl ?_ | refine AQ.op rfl (AOp.bool_ne (by kernel_rfl) rfl rfl) rfl rfl ?_) <;> refine AQ.nil ?_)
    | (refine AW.region_at 3 ?_ <;> refine AL.det (AOp.iface rfl rfl (by kernel_rfl)) rfl rfl rfl ?_ <;> refine AL.panic rfl rfl ?_)
    | (refine AW.draw_last_at 4 10 rfl (by kernel_rfl) (by kernel_rfl) (by kernel_rfl) (by kernel_rfl) ?_ <;> refine AQ.ev rfl rfl rfl rfl ?_ <;> refine AQ.ev rfl rfl rfl rfl ?_ <;> refine AQ.ev rfl rfl rfl rfl ?_ <;> (first | refine AQ.op rfl (AOp.field_at rfl rfl (by kernel_rfl) rfl) rfl rfl ?_ | refine AQ.op rfl (AOp.field_ref (off := 4) rfl (by kernel_rfl)) rfl rfl ?_) <;> (first | refine AQ.op rfl (AOp.load_at rfl rfl (by kernel_rfl)) rfl rfl ?_ | refine AQ.op rfl (AOp.load_leaf 0 rfl rfl rfl rfl (by kernel_rfl)) rfl rfl ?_ | refine AQ.op rfl (AOp.load_all 0 rfl rfl rfl (by kernel_rfl)) rfl rfl ?_) <;> refine AQ.ev rfl rfl rfl rfl ?_ <;> refine AQ.ev rfl rfl rfl rfl ?_ <;> (first | refine AQ.op rfl (AOp.field_at rfl rfl (by kernel_rfl) rfl) rfl rfl ?_ | refine AQ.op rfl (AOp.field_ref (off := 5) rfl (by kernel_rfl)) rfl rfl ?_) <;> (first | refine AQ.op rfl (AOp.load_at rfl rfl (by kernel_rfl)) rfl rfl ?_ | refine AQ.op rfl (AOp.load_leaf 0 rfl rfl rfl rfl (by kernel_rfl)) rfl rfl ?_ | refine AQ.op rfl (AOp.load_all 0 rfl rfl rfl (by kernel_rfl)) rfl rfl ?_) <;> refine AQ.op rfl (AOp.cut (sz := 1) rfl rfl (by kernel_rfl) (all_map fun _ => rfl) (bndIs.some (n := m.used.toNat) rfl (by omega)) bndIs.none (by omega) (by omega)) rfl rfl ?_ <;> refine AQ.nil ?_ <;> refine AL.det (AOp.copy_sl (m := (m.rels s.Name).length) (e := 4) (c0 := .bool false) (bytes := 1) rfl hrow (by simp) rfl rfl (by kernel_rfl) (fun y hy => all_map (n := 1) (fun _ => rfl) y (List.mem_of_mem_take (List.mem_of_mem_drop hy))) (by rw [← List.map_take, ← List.map_drop]; exact ok_map fun _ => rfl) hmin) rfl rfl rfl ?_ <;> refine AL.nil ?_)
    | (refine AW.region_at 5 ?_ <;> refine AL.ev rfl rfl rfl rfl ?_ <;> refine AL.ev rfl rfl rfl rfl ?_ <;> (first | refine AL.det (AOp.field_at rfl rfl (by kernel_rfl) rfl) rfl rfl rfl ?_ | refine AL.det (AOp.field_ref (off := 5) rfl (by kernel_rfl)) rfl rfl rfl ?_) <;> (first | refine AL.det (AOp.load_at rfl rfl (by kernel_rfl)) rfl rfl rfl ?_ | refine AL.det (AOp.load_leaf 0 rfl rfl rfl rfl (by kernel_rfl)) rfl rfl rfl ?_ | refine AL.det (AOp.load_all 0 rfl rfl rfl (by kernel_rfl)) rfl rfl rfl ?_) <;> refine AL.ev rfl rfl rfl rfl ?_ <;> refine AL.det (AOp.len rfl rfl (by kernel_rfl)) rfl rfl rfl ?_ <;> (first | refine AL.ev rfl rfl rfl rfl ?_ | refine AL.det (AOp.add rfl rfl (by omega)) rfl rfl rfl ?_ | refine AL.det (AOp.sub rfl rfl (by omega)) rfl rfl rfl ?_ | refine AL.det (AOp.bool_eq (by kernel_rfl) rfl rfl) rfl rfl rfl ?_ | refine AL.det (AOp.bool_ne (by kernel_rfl) rfl rfl) rfl rfl rfl ?_) <;> refine AL.ev rfl rfl rfl rfl ?_ <;> (first | refine AL.det (AOp.field_at rfl rfl (by kernel_rfl) rfl) rfl rfl rfl ?_ | refine AL.det (AOp.field_ref (off := 5) rfl (by kernel_rfl)) rfl rfl rfl ?_) <;> refine AL.store_leaf 0 rfl rfl rfl rfl rfl (by kernel_rfl) ?_ <;> refine AL.nil ?_)
    | refine AW.cond_true rfl ?_
    | refine AW.cond_false rfl ?_
    | refine AW.block ?_
    | refine AW.endblk ?_
    | refine AW.skip ?_
    | refine AW.exit rfl ?_
    | refine AW.label ?_
    | refine AW.cond rfl (fun hb => ?_) (fun hb => ?_))
  all_goals first
    | (exfalso; simp only [decide_eq_true_eq, decide_eq_false_iff_not] at *; omega)
    | skip
  have hrv : (((E.G.map bav).take (E.G.map bav).length).drop m.used.toNat).take (m.rels s.Name).length ++ ((m.rels s.Name).map bav).drop (m.rels s.Name).length = ((E.G.drop m.used.toNat).take (m.rels s.Name).length).map bav := by
    have hd : ((m.rels s.Name).map bav).drop (m.rels s.Name).length = [] := List.drop_eq_nil_of_le (by simp)
    rw [List.take_length, hd, List.append_nil, ← List.map_drop, ← List.map_take]
  have e := ah_setrow E B m hm.nodup hj ((E.G.drop m.used.toNat).take (m.rels s.Name).length) (by simp; omega)
  rw [← hrv] at e
  refine AW.donev rfl ⟨rfl, ?_⟩
  refine (congrArg (fun l : AH => l.set 0 _) e).trans ?_
  rfl
end
end Go.Proofs.Ytdedkpfbfklgbaa
