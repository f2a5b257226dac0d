/- Proved: CodeRuns returns true for every program, every structure and every start (the given statement CodeRunsSaid). Conditions: none beyond the statement's own. -/
import Derived.Test.YtdedkpfbfklgbaaGreatRows
import Derived.Test.YtdedkpfbfklgbaaGreatS2
import Derived.Test.YtdedkpfbfklgbaaGreatA5
import Derived.WalkKit
import Derived.ProofKit
import Derived.OpenShut
import Derived.ShutString
import Derived.ChangeOld
import Derived.Below
import Derived.SizedLaws
namespace Go.Proofs.YtdedkpfbfklgbaaGreat.codeRuns
open Go.ChangeShapes Go.WideShapes Go.ChangeAt Go.RowKit Go.SX
open Go.ChangeMaps (open_string shut_string)
set_option linter.unusedVariables false
theorem own : ownKnob Tryz.prog.godebug = none := by kernel_rfl
theorem laidOut : laidOutB Tryz.prog = true := by kernel_rfl
theorem law (x0 : GCode) (x1 : GStr) (x2 : List Bool × Int) (h0 : x0.Ok) (h1 : x1.Ok) (h2 : (lenOk 1 (fun _ => True) x2.1 ∧ iOk x2.2)) : Tri Tryz.prog 3 [x0.av, x1.av, .st [bools x2.1, iav x2.2]] [] (D (.bool true) []) := law_CodeRuns x0 x1 x2.1 x2.2 h0 h1 (by have := h2.1.1; omega)
set_option maxRecDepth 100000 in
theorem lifted (os : Os) (started : os.Started) (H : Type) (enc : TypeId × Value → H) :
    ReturnsInHanded {} Tryz.checked os 3 .any (Rows.codeRunsSpec.pre6 enc Tryz.prog Tryz.f3 Rows.codeRunsRow.domain false) (Rows.codeRunsSpec.post enc Tryz.prog Tryz.f3 false true false false) := by
  refine returnsInHanded_of_change_sized (C := Tryz.checked) own started (by kernel_rfl) Tryz.func3
    (ChangeSpec.witness6 (enc := enc) (C := Tryz.checked) false ⟨#[], #[.agg #[.int .i64 0, .int .i64 0, .slice none 0 0, .slice none 0 0], .agg #[.int .i64 0, .slice none 0 0], .agg #[.slice none 0 0, .int .i64 0]], []⟩ 8 (by kernel_rfl) (by kernel_rfl) (by kernel_rfl) (by kernel_rfl)) ?_
  intro W base args ds gs before hval0 hW hcnd hsz0 _
  have hsz : (DataW.weightsEach Tryz.prog (Tryz.f3.params.toList ++ Rows.codeRunsSpec.plain.varTypes Tryz.prog) (ds ++ gs)).all (· ≤ reachBytes) = true := hsz0
  have hval : ∀ (j : Nat) t v, Tryz.f3.params[j]? = some t → args[j]? = some v → Value.okWide Tryz.prog W .any base t v := hval0
  have hW' := hW
  obtain ⟨p, q, hA0, hV, rfl, hfz, hnd⟩ := hW
  have hA : DataW.TrodAll enc Tryz.prog W 0 (fun _ => true) true Tryz.f3.params.toList args.toList ds p := hA0
  have hp : Tryz.f3.params = #[25, 28, 31] := rfl
  rw [hp] at hA hval hsz
  obtain ⟨v0, vs0, d0, ds0, p0, q0, hargs, rfl, rfl, t0, r0⟩ := trodAll_cons hA
  obtain ⟨v1, vs1, d1, ds1, p1, q1, rfl, rfl, rfl, t1, r1⟩ := trodAll_cons r0
  obtain ⟨v2, vs2, d2, ds2, p2, q2, rfl, rfl, rfl, t2, r2⟩ := trodAll_cons r1
  obtain ⟨rfl, rfl, rfl⟩ := trodAll_nil r2
  obtain rfl : args = #[v0, v1, v2] := by cases args; simp_all
  obtain ⟨rfl, rfl⟩ := trodVars_none hV
  obtain ⟨x0, hx0, ox0⟩ := Rd.arg rdCode t0 (weights_of hsz (i := 0) rfl rfl) fun a => agg_of (ts := [3, 3, 22, 23]) (by kernel_rfl) (hval 0 25 v0 rfl rfl)
  obtain ⟨x1, hx1, ox1⟩ := Rd.arg rdStr_ t1 (weights_of hsz (i := 1) rfl rfl) fun a => agg_of (ts := [3, 26]) (by kernel_rfl) (hval 1 28 v1 rfl rfl)
  obtain ⟨x2, hx2, ox2⟩ := Rd.arg rdStart t2 (weights_of hsz (i := 2) rfl rfl) fun a => agg_of (ts := [29, 3]) (by kernel_rfl) (hval 2 31 v2 rfl rfl)
  have k0 := t0
  have lt0 : ∀ x ∈ p0, x.block < W.heap.size := by obtain ⟨m, hm⟩ := k0; exact DataW.trod_lt m _ _ _ hm
  have k1 := t1
  have lt1 : ∀ x ∈ p1, x.block < W.heap.size := by obtain ⟨m, hm⟩ := k1; exact DataW.trod_lt m _ _ _ hm
  have k2 := t2
  have lt2 : ∀ x ∈ p2, x.block < W.heap.size := by obtain ⟨m, hm⟩ := k2; exact DataW.trod_lt m _ _ _ hm
  have hrel : RelVs NoRg W [x0.av, x1.av, .st [bools x2.1, iav x2.2]] [v0, v1, v2] := by
    simp only [RelVs]
    exact ⟨_, _, rfl, hx0.1, hx0.2, _, _, rfl, hx1.1, hx1.2, _, _, rfl, hx2.1, hx2.2, rfl⟩
  clear hA0 hval0 hsz0 hsz
  refine ((law x0 x1 x2 ox0 ox1 ox2).calls hrel).mono fun e W' ⟨he, bel⟩ => ?_
  subst he
  exact ⟨_, rfl, _, _, _, [], _, [], hW', trodAll_mk1 (shut_bool (isBool_eq (by kernel_rfl)) _), (trodAll_cons_mk (Below.trod laidOut (by kernel_rfl) (of_decide_eq_true (by kernel_rfl)) k0 bel lt0) (trodAll_cons_mk (Below.trod laidOut (by kernel_rfl) (of_decide_eq_true (by kernel_rfl)) k1 bel lt1) (trodAll_cons_mk (Below.trod laidOut (by kernel_rfl) (of_decide_eq_true (by kernel_rfl)) k2 bel lt2) trodAll_mk0))), rfl, bel.frame _, fun h => by cases h⟩
theorem over : Rows.codeRunsRow.holds Tryz.pinned (OpenSpec.ofChange Rows.codeRunsSpec) :=
  OpenClaim.holds_of_wide 3 Tryz.f3 rfl rfl rfl rfl rfl rfl rfl ⟨rfl, rfl, rfl, rfl, rfl⟩ rfl rfl rfl rfl rfl (by kernel_rfl) Tryz.func3 (by kernel_rfl)
    (of_decide_eq_true (by kernel_rfl)) (by unfold Func.isWrapper; first | (rw [if_pos (by decide +kernel)]; kernel_rfl) | (rw [if_neg (by decide +kernel)]; exact ⟨rfl, rfl⟩))
    (fun os started H enc _ => lifted os started H enc)
theorem proved : Rows.CodeRunsSaid := over
end Go.Proofs.YtdedkpfbfklgbaaGreat.codeRuns
