/- Contracts: the table of actions; the deferred function. -/
import Derived.Test.YtdedkpfbfklgbaaC23
import Derived.Recover
namespace Go.Proofs.Ytdedkpfbfklgbaa
open Go.RowKit Go.SX
set_option maxRecDepth 100000
set_option maxHeartbeats 4000000
set_option linter.unusedVariables false
set_option linter.unusedSimpArgs false

theorem code_actions : Tri Try.prog 23 [] [] (fun x h => ∃ b g, x = .ret (.map b) ∧ h = [.map b runKV g]) := by
  refine Tri.enter 3 Try.func23 rfl rfl rfl rfl fun Fr w0 => ?_
  repeat' (first
    | refine AW.seq ?_
    | (refine AW.region_at 0 ?_ <;> refine AL.ev rfl rfl rfl rfl ?_ <;> refine AL.nil ?_)
    | (refine AW.region_at 1 ?_ <;> refine AL.makeMap rfl fun b => ?_ <;> refine AL.insert (i := 0) (kd := .int .i64) (e := 98) rfl rfl rfl rfl (by kernel_rfl) rfl rfl ?_ <;> refine AL.insert (i := 0) (kd := .int .i64) (e := 98) rfl rfl rfl rfl (by kernel_rfl) rfl rfl ?_ <;> refine AL.insert (i := 0) (kd := .int .i64) (e := 98) rfl rfl rfl rfl (by kernel_rfl) rfl rfl ?_ <;> refine AL.insert (i := 0) (kd := .int .i64) (e := 98) rfl rfl rfl rfl (by kernel_rfl) rfl rfl ?_ <;> refine AL.insert (i := 0) (kd := .int .i64) (e := 98) rfl rfl rfl rfl (by kernel_rfl) rfl rfl ?_ <;> refine AL.insert (i := 0) (kd := .int .i64) (e := 98) rfl rfl rfl rfl (by kernel_rfl) rfl rfl ?_ <;> refine AL.insert (i := 0) (kd := .int .i64) (e := 98) rfl rfl rfl rfl (by kernel_rfl) rfl rfl ?_ <;> refine AL.insert (i := 0) (kd := .int .i64) (e := 98) rfl rfl rfl rfl (by kernel_rfl) rfl rfl ?_ <;> refine AL.insert (i := 0) (kd := .int .i64) (e := 98) rfl rfl rfl rfl (by kernel_rfl) rfl rfl ?_ <;> refine AL.insert (i := 0) (kd := .int .i64) (e := 98) rfl rfl rfl rfl (by kernel_rfl) rfl rfl ?_ <;> refine AL.insert (i := 0) (kd := .int .i64) (e := 98) rfl rfl rfl rfl (by kernel_rfl) rfl rfl ?_ <;> refine AL.insert (i := 0) (kd := .int .i64) (e := 98) rfl rfl rfl rfl (by kernel_rfl) rfl rfl ?_ <;> refine AL.insert (i := 0) (kd := .int .i64) (e := 98) rfl rfl rfl rfl (by kernel_rfl) rfl rfl ?_ <;> refine AL.insert (i := 0) (kd := .int .i64) (e := 98) rfl rfl rfl rfl (by kernel_rfl) rfl rfl ?_ <;> refine AL.insert (i := 0) (kd := .int .i64) (e := 98) rfl rfl rfl rfl (by kernel_rfl) rfl rfl ?_ <;> refine AL.ev rfl rfl rfl rfl ?_ <;> refine AL.ev rfl rfl rfl rfl ?_ <;> refine AL.nil ?_)
    | refine AW.cond_true rfl ?_
    | refine AW.cond_false rfl ?_
    | refine AW.block ?_
    | refine AW.endblk ?_
    | refine AW.skip ?_
    | refine AW.exit rfl ?_
    | refine AW.label ?_
    | refine AW.cond rfl (fun hb => ?_) (fun hb => ?_))
  first
    | exact AW.retv rfl ⟨_, _, rfl, rfl⟩
    | exact AW.donev rfl ⟨_, _, rfl, rfl⟩
end Go.Proofs.Ytdedkpfbfklgbaa
