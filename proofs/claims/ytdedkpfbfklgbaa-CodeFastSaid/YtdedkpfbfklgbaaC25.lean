/- Contracts: the deferred function of Run. -/
import Derived.Test.YtdedkpfbfklgbaaC24
import Derived.Test.YtdedkpfbfklgbaaS3
namespace Go.Proofs.Ytdedkpfbfklgbaa
open Go.RowKit Go.SX
set_option maxRecDepth 100000
set_option maxHeartbeats 4000000
set_option linter.unusedVariables false
set_option linter.unusedSimpArgs false

def resAH (r1 r2 r3 r4 : Nat) (b : Bool) (n g e : Int) : AH := [.box r1 (.bool b), .box r2 (.int .i64 n), .box r3 (.int .i64 g), .box r4 (.int .i64 e)]
theorem run_panic (r1 r2 r3 r4 : Nat) (b : Bool) (n g e : Int) (x : Int) : TriD Try.prog 26 [.ref r1 0, .ref r2 0, .ref r3 0, .ref r4 0] (resAH r1 r2 r3 r4 b n g e)
    (.panicking [{ v := .iface 80 (.int .i64 x), recovered := false }]) (fun u' h => u' = (recMode (.panicking [{ v := .iface 80 (.int .i64 x), recovered := false }])).2 ∧ h = resAH r1 r2 r3 r4 false 0 0 x) := by
  -- refine Tri.enter 13 Try.func26 rfl rfl rfl rfl fun Fr w0 => ?_
  refine TriD.enterR 13 Try.func26 rfl rfl rfl rfl rfl rfl rfl rfl rfl fun Fr w0 => ?_
  (refine AL.det (AOp.assert_yes (v := .int .i64 x) rfl (by kernel_rfl) (fun S w => mk_int)) rfl rfl rfl ?_) <;> (refine AL.ev rfl rfl rfl rfl ?_) <;> (refine AL.ev rfl rfl rfl rfl ?_) <;> (refine AL.ev rfl rfl rfl rfl ?_) <;> (refine AL.ev rfl rfl rfl rfl ?_) <;> (refine AL.ev rfl rfl rfl rfl ?_) <;> (refine AL.nil ?_)
  repeat' (first
    | refine AW.seq ?_
    | (refine AW.region_at 1 ?_ <;> refine AL.ev rfl rfl rfl rfl ?_ <;> refine AL.nil ?_)
    | (refine AW.region_at 2 ?_ <;> refine AL.ev rfl rfl rfl rfl ?_ <;> (first | refine AL.store_leaf 0 rfl rfl rfl rfl rfl (by kernel_rfl) ?_ | refine AL.store_leaf 1 rfl rfl rfl rfl rfl (by kernel_rfl) ?_ | refine AL.store_leaf 2 rfl rfl rfl rfl rfl (by kernel_rfl) ?_ | refine AL.store_leaf 3 rfl rfl rfl rfl rfl (by kernel_rfl) ?_) <;> (first | refine AL.store_leaf 0 rfl rfl rfl rfl rfl (by kernel_rfl) ?_ | refine AL.store_leaf 1 rfl rfl rfl rfl rfl (by kernel_rfl) ?_ | refine AL.store_leaf 2 rfl rfl rfl rfl rfl (by kernel_rfl) ?_ | refine AL.store_leaf 3 rfl rfl rfl rfl rfl (by kernel_rfl) ?_) <;> (first | refine AL.store_leaf 0 rfl rfl rfl rfl rfl (by kernel_rfl) ?_ | refine AL.store_leaf 1 rfl rfl rfl rfl rfl (by kernel_rfl) ?_ | refine AL.store_leaf 2 rfl rfl rfl rfl rfl (by kernel_rfl) ?_ | refine AL.store_leaf 3 rfl rfl rfl rfl rfl (by kernel_rfl) ?_) <;> (first | refine AL.store_leaf 0 rfl rfl rfl rfl rfl (by kernel_rfl) ?_ | refine AL.store_leaf 1 rfl rfl rfl rfl rfl (by kernel_rfl) ?_ | refine AL.store_leaf 2 rfl rfl rfl rfl rfl (by kernel_rfl) ?_ | refine AL.store_leaf 3 rfl rfl rfl rfl rfl (by kernel_rfl) ?_) <;> refine AL.nil ?_)
    | refine AW.cond_true rfl ?_
    | refine AW.cond_false rfl ?_
    | refine AW.block ?_
    | refine AW.endblk ?_
    | refine AW.skip ?_
    | refine AW.exit rfl ?_
    | refine AW.label ?_
    | refine AW.cond rfl (fun hb => ?_) (fun hb => ?_))
  exact AW.donev rfl ⟨⟨_, rfl⟩, rfl⟩
theorem run_return (r1 r2 r3 r4 : Nat) (b : Bool) (n g e : Int) : TriD Try.prog 26 [.ref r1 0, .ref r2 0, .ref r3 0, .ref r4 0] (resAH r1 r2 r3 r4 b n g e)
    .returning (fun u' h => u' = .returning ∧ h = resAH r1 r2 r3 r4 b n g e) := by
  -- refine Tri.enter 13 Try.func26 rfl rfl rfl rfl fun Fr w0 => ?_
  refine TriD.enterR 13 Try.func26 rfl rfl rfl rfl rfl rfl rfl rfl rfl fun Fr w0 => ?_
  (refine AL.det (AOp.assert_nil (z := .int .i64 0) (zv := .int .i64 0) rfl (by kernel_rfl) (by kernel_rfl) (fun S w => mk_int)) rfl rfl rfl ?_) <;> (refine AL.ev rfl rfl rfl rfl ?_) <;> (refine AL.ev rfl rfl rfl rfl ?_) <;> (refine AL.ev rfl rfl rfl rfl ?_) <;> (refine AL.ev rfl rfl rfl rfl ?_) <;> (refine AL.ev rfl rfl rfl rfl ?_) <;> (refine AL.nil ?_)
  repeat' (first
    | refine AW.seq ?_
    | (refine AW.region_at 1 ?_ <;> refine AL.ev rfl rfl rfl rfl ?_ <;> refine AL.nil ?_)
    | (refine AW.region_at 2 ?_ <;> refine AL.ev rfl rfl rfl rfl ?_ <;> (first | refine AL.store_leaf 0 rfl rfl rfl rfl rfl (by kernel_rfl) ?_ | refine AL.store_leaf 1 rfl rfl rfl rfl rfl (by kernel_rfl) ?_ | refine AL.store_leaf 2 rfl rfl rfl rfl rfl (by kernel_rfl) ?_ | refine AL.store_leaf 3 rfl rfl rfl rfl rfl (by kernel_rfl) ?_) <;> (first | refine AL.store_leaf 0 rfl rfl rfl rfl rfl (by kernel_rfl) ?_ | refine AL.store_leaf 1 rfl rfl rfl rfl rfl (by kernel_rfl) ?_ | refine AL.store_leaf 2 rfl rfl rfl rfl rfl (by kernel_rfl) ?_ | refine AL.store_leaf 3 rfl rfl rfl rfl rfl (by kernel_rfl) ?_) <;> (first | refine AL.store_leaf 0 rfl rfl rfl rfl rfl (by kernel_rfl) ?_ | refine AL.store_leaf 1 rfl rfl rfl rfl rfl (by kernel_rfl) ?_ | refine AL.store_leaf 2 rfl rfl rfl rfl rfl (by kernel_rfl) ?_ | refine AL.store_leaf 3 rfl rfl rfl rfl rfl (by kernel_rfl) ?_) <;> (first | refine AL.store_leaf 0 rfl rfl rfl rfl rfl (by kernel_rfl) ?_ | refine AL.store_leaf 1 rfl rfl rfl rfl rfl (by kernel_rfl) ?_ | refine AL.store_leaf 2 rfl rfl rfl rfl rfl (by kernel_rfl) ?_ | refine AL.store_leaf 3 rfl rfl rfl rfl rfl (by kernel_rfl) ?_) <;> refine AL.nil ?_)
    | refine AW.cond_true rfl ?_
    | refine AW.cond_false rfl ?_
    | refine AW.block ?_
    | refine AW.endblk ?_
    | refine AW.skip ?_
    | refine AW.exit rfl ?_
    | refine AW.label ?_
    | refine AW.cond rfl (fun hb => ?_) (fun hb => ?_))
  exact AW.donev rfl ⟨⟨_, rfl⟩, rfl⟩
end Go.Proofs.Ytdedkpfbfklgbaa
