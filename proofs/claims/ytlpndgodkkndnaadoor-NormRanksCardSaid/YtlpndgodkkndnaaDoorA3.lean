/- Contracts of the functions, part 3. -/
import Derived.Test.YtlpndgodkkndnaaDoorA2
import Derived.Test.YtlpndgodkkndnaaDoorA2
import Derived.Test.YtlpndgodkkndnaaDoorS2
import Derived.Test.YtlpndgodkkndnaaDoorS3
import Derived.Test.YtlpndgodkkndnaaDoorProg
namespace Go.Proofs.YtlpndgodkkndnaaDoor
open Go.RowKit Go.SX
set_option maxRecDepth 100000
set_option maxHeartbeats 4000000
set_option linter.unusedVariables false
set_option linter.unusedSimpArgs false
theorem few_one (most : Int) (hm : 0 ≤ most ∧ most ≤ 1000000) (f : GFml) (ho : f.Ok) : Tri Tryd.prog 8 [.int .i64 most, .sl [f.st]] [] (D (.bool (decide (wFs most [f] 0 ≤ most))) []) := by
  have h := law_Few most hm [f] (by simp) (by intro x hx; rw [List.mem_singleton.1 hx]; exact ho)
  rw [List.map_cons, List.map_nil, GFml.av_eq] at h
  exact h
theorem law_NormNnf (f : GFml) (ho : f.Ok) : Tri Tryd.prog 3 [f.st] [] (D (.bool true) []) := by
  have hF := few_one 5000 (by omega) f ho
  have hAl := alive
  by_cases hfew : wFs 5000 [f] 0 ≤ 5000
  · rw [decide_eq_true hfew] at hF
    have hnd := few_nd hfew (by omega)
    have hN := n_Nnf f ho
    have hV := ref_Valid f ho (by omega)
    have hwk := nn_ok f false ho
    have hwn := nn_nd f false
    have hW := fun h => ref_Nnf _ f false (Nat.le_refl _) ho (validF_shs h)
    have hVW := ref_Valid (nnF f false) hwk (by omega)
    have hS0 := ref_Same _ noF noF (Nat.le_refl _) noF_ok noF_ok
    have hSW := ref_Same _ (nnF f false) (nnF f false) (Nat.le_refl _) hwk hwk
    rw [eqF_refl] at hS0 hSW
    unfold nnfP fitF at hN
    clear hwk hwn hnd hfew
    generalize nnF f false = g at *
    generalize validF f = V at *
    generalize validF g = W at *
    obtain ⟨k, ar, nm, vars, args, kids⟩ := f
    cases V with
    | false =>
      clear hW
      refine Tri.enter 54 Tryd.func3 rfl rfl rfl rfl fun Fr w0 => ?_
      repeat' (first | (refine AW.r 0 ?_ <;> (first | refine AL.d (AOp.box_ro (v := .st [.int .i64 k, .int .i64 ar, .str nm, strs vars, strs args, .sl (kids.map GFml.av)]) rfl rfl) ?_ | refine AL.d (AOp.box_ro rfl rfl) ?_) <;> refine AL.es 1 ?_ <;> refine AL.nil ?_) | (refine AW.r 1 ?_ <;> refine AL.es 1 ?_ <;> refine AL.d (AOp.lit (e := 25) (sz := 6) (by kernel_rfl) rfl rfl rfl (P_one rfl) (by decide)) ?_ <;> (first | refine AL.d (AOp.call rfl rfl hF) ?_ | refine AL.d (AOp.call rfl rfl hN) ?_ | refine AL.d (AOp.call rfl rfl hV) ?_ | refine AL.d (AOp.call rfl rfl hS0) ?_ | refine AL.d (AOp.call rfl rfl hAl) ?_) <;> refine AL.es 1 ?_ <;> refine AL.nil ?_) | (refine AW.r 3 ?_ <;> refine AL.es 1 ?_ <;> (first | refine AL.d (AOp.call rfl rfl hF) ?_ | refine AL.d (AOp.call rfl rfl hN) ?_ | refine AL.d (AOp.call rfl rfl hV) ?_ | refine AL.d (AOp.call rfl rfl hS0) ?_ | refine AL.d (AOp.call rfl rfl hAl) ?_) <;> refine AL.es 3 ?_ <;> refine AL.alloc_store (by kernel_rfl) rfl rfl rfl rfl ?_ <;> refine AL.es 1 ?_ <;> refine AL.nil ?_) | (refine AW.r 4 ?_ <;> refine AL.es 1 ?_ <;> (first | refine AL.d (AOp.call rfl rfl hF) ?_ | refine AL.d (AOp.call rfl rfl hN) ?_ | refine AL.d (AOp.call rfl rfl hV) ?_ | refine AL.d (AOp.call rfl rfl hS0) ?_ | refine AL.d (AOp.call rfl rfl hAl) ?_) <;> refine AL.es 1 ?_ <;> refine AL.nil ?_) | (refine AW.r 5 ?_ <;> refine AL.es 3 ?_ <;> (first | refine AL.es 1 ?_ | (refine AL.gx (fun hb => ?_) (fun hb => ?_) <;> refine AL.es 1 ?_)) <;> (first | (refine AL.gd ?_; refine AL.d (AOp.build (pl := [(0, 1), (1, 1), (2, 1), (3, 1), (4, 1), (5, 1)]) (z := .st [.int .i64 0, .int .i64 0, .str ⟨#[]⟩, .sl [], .sl [], .sl []]) (by kernel_rfl) rfl rfl rfl) ?_) | refine AL.gs ?_ | refine AL.gu ?_) <;> (first | (refine AL.gd ?_; (first | refine AL.d (AOp.call rfl rfl hF) ?_ | refine AL.d (AOp.call rfl rfl hN) ?_ | refine AL.d (AOp.call rfl rfl hV) ?_ | refine AL.d (AOp.call rfl rfl hS0) ?_ | refine AL.d (AOp.call rfl rfl hAl) ?_)) | refine AL.gs ?_ | refine AL.gu ?_) <;> refine AL.es 2 ?_ <;> (first | (refine AL.gd ?_; (first | refine AL.d (AOp.call rfl rfl hF) ?_ | refine AL.d (AOp.call rfl rfl hN) ?_ | refine AL.d (AOp.call rfl rfl hV) ?_ | refine AL.d (AOp.call rfl rfl hS0) ?_ | refine AL.d (AOp.call rfl rfl hAl) ?_)) | refine AL.gs ?_ | refine AL.gu ?_ | (refine AL.gx (fun hb => ?_) (fun hb => ?_) <;> first | (refine AL.gd ?_; (first | refine AL.d (AOp.call rfl rfl hF) ?_ | refine AL.d (AOp.call rfl rfl hN) ?_ | refine AL.d (AOp.call rfl rfl hV) ?_ | refine AL.d (AOp.call rfl rfl hS0) ?_ | refine AL.d (AOp.call rfl rfl hAl) ?_)) | refine AL.gs ?_)) <;> refine AL.es 2 ?_ <;> refine AL.nil ?_) | refine AW.jt ?_ | refine AW.jf ?_ | refine AW.jj (fun hb => ?_) (fun hb => ?_) | refine AW.go ?_ | fail)
      exact AW.retv rfl ⟨rfl, rfl⟩
    | true =>
      have hWn := hW rfl
      clear hW
      cases W with
      | false =>
        refine Tri.enter 54 Tryd.func3 rfl rfl rfl rfl fun Fr w0 => ?_
        repeat' (first | (refine AW.r 0 ?_ <;> (first | refine AL.d (AOp.box_ro (v := .st [.int .i64 k, .int .i64 ar, .str nm, strs vars, strs args, .sl (kids.map GFml.av)]) rfl rfl) ?_ | refine AL.d (AOp.box_ro rfl rfl) ?_) <;> refine AL.es 1 ?_ <;> refine AL.nil ?_) | (refine AW.r 1 ?_ <;> refine AL.es 1 ?_ <;> refine AL.d (AOp.lit (e := 25) (sz := 6) (by kernel_rfl) rfl rfl rfl (P_one rfl) (by decide)) ?_ <;> (first | refine AL.d (AOp.call rfl rfl hF) ?_ | refine AL.d (AOp.call rfl rfl hN) ?_ | refine AL.d (AOp.call rfl rfl hV) ?_ | refine AL.d (AOp.call rfl rfl hWn) ?_ | refine AL.d (AOp.call rfl rfl hVW) ?_ | refine AL.d (AOp.call rfl rfl hS0) ?_ | refine AL.d (AOp.call rfl rfl hAl) ?_) <;> refine AL.es 1 ?_ <;> refine AL.nil ?_) | (refine AW.r 3 ?_ <;> refine AL.es 1 ?_ <;> (first | refine AL.d (AOp.call rfl rfl hF) ?_ | refine AL.d (AOp.call rfl rfl hN) ?_ | refine AL.d (AOp.call rfl rfl hV) ?_ | refine AL.d (AOp.call rfl rfl hWn) ?_ | refine AL.d (AOp.call rfl rfl hVW) ?_ | refine AL.d (AOp.call rfl rfl hS0) ?_ | refine AL.d (AOp.call rfl rfl hAl) ?_) <;> refine AL.es 3 ?_ <;> refine AL.alloc_store (by kernel_rfl) rfl rfl rfl rfl ?_ <;> refine AL.es 1 ?_ <;> refine AL.nil ?_) | (refine AW.r 4 ?_ <;> refine AL.es 1 ?_ <;> (first | refine AL.d (AOp.call rfl rfl hF) ?_ | refine AL.d (AOp.call rfl rfl hN) ?_ | refine AL.d (AOp.call rfl rfl hV) ?_ | refine AL.d (AOp.call rfl rfl hWn) ?_ | refine AL.d (AOp.call rfl rfl hVW) ?_ | refine AL.d (AOp.call rfl rfl hS0) ?_ | refine AL.d (AOp.call rfl rfl hAl) ?_) <;> refine AL.es 1 ?_ <;> refine AL.nil ?_) | (refine AW.r 6 ?_ <;> refine AL.es 1 ?_ <;> (first | refine AL.d (AOp.call rfl rfl hF) ?_ | refine AL.d (AOp.call rfl rfl hN) ?_ | refine AL.d (AOp.call rfl rfl hV) ?_ | refine AL.d (AOp.call rfl rfl hWn) ?_ | refine AL.d (AOp.call rfl rfl hVW) ?_ | refine AL.d (AOp.call rfl rfl hS0) ?_ | refine AL.d (AOp.call rfl rfl hAl) ?_) <;> refine AL.alloc_store (by kernel_rfl) rfl rfl rfl rfl ?_ <;> refine AL.nil ?_) | (refine AW.r 7 ?_ <;> refine AL.es 1 ?_ <;> (first | refine AL.d (AOp.call rfl rfl hF) ?_ | refine AL.d (AOp.call rfl rfl hN) ?_ | refine AL.d (AOp.call rfl rfl hV) ?_ | refine AL.d (AOp.call rfl rfl hWn) ?_ | refine AL.d (AOp.call rfl rfl hVW) ?_ | refine AL.d (AOp.call rfl rfl hS0) ?_ | refine AL.d (AOp.call rfl rfl hAl) ?_) <;> refine AL.es 1 ?_ <;> refine AL.nil ?_) | (refine AW.r 8 ?_ <;> refine AL.es 3 ?_ <;> (first | refine AL.es 1 ?_ | (refine AL.gx (fun hb => ?_) (fun hb => ?_) <;> refine AL.es 1 ?_)) <;> (first | (refine AL.gd ?_; refine AL.d (AOp.build (pl := [(0, 1), (1, 1), (2, 1), (3, 1), (4, 1), (5, 1)]) (z := .st [.int .i64 0, .int .i64 0, .str ⟨#[]⟩, .sl [], .sl [], .sl []]) (by kernel_rfl) rfl rfl rfl) ?_) | refine AL.gs ?_ | refine AL.gu ?_) <;> (first | (refine AL.gd ?_; (first | refine AL.d (AOp.call rfl rfl hF) ?_ | refine AL.d (AOp.call rfl rfl hN) ?_ | refine AL.d (AOp.call rfl rfl hV) ?_ | refine AL.d (AOp.call rfl rfl hWn) ?_ | refine AL.d (AOp.call rfl rfl hVW) ?_ | refine AL.d (AOp.call rfl rfl hS0) ?_ | refine AL.d (AOp.call rfl rfl hAl) ?_)) | refine AL.gs ?_ | refine AL.gu ?_) <;> refine AL.es 2 ?_ <;> (first | (refine AL.gd ?_; (first | refine AL.d (AOp.call rfl rfl hF) ?_ | refine AL.d (AOp.call rfl rfl hN) ?_ | refine AL.d (AOp.call rfl rfl hV) ?_ | refine AL.d (AOp.call rfl rfl hWn) ?_ | refine AL.d (AOp.call rfl rfl hVW) ?_ | refine AL.d (AOp.call rfl rfl hS0) ?_ | refine AL.d (AOp.call rfl rfl hAl) ?_)) | refine AL.gs ?_ | refine AL.gu ?_ | (refine AL.gx (fun hb => ?_) (fun hb => ?_) <;> first | (refine AL.gd ?_; (first | refine AL.d (AOp.call rfl rfl hF) ?_ | refine AL.d (AOp.call rfl rfl hN) ?_ | refine AL.d (AOp.call rfl rfl hV) ?_ | refine AL.d (AOp.call rfl rfl hWn) ?_ | refine AL.d (AOp.call rfl rfl hVW) ?_ | refine AL.d (AOp.call rfl rfl hS0) ?_ | refine AL.d (AOp.call rfl rfl hAl) ?_)) | refine AL.gs ?_)) <;> refine AL.es 2 ?_ <;> refine AL.nil ?_) | refine AW.jt ?_ | refine AW.jf ?_ | refine AW.jj (fun hb => ?_) (fun hb => ?_) | refine AW.go ?_ | fail)
        exact AW.retv rfl ⟨rfl, rfl⟩
      | true =>
        refine Tri.enter 54 Tryd.func3 rfl rfl rfl rfl fun Fr w0 => ?_
        repeat' (first | (refine AW.r 0 ?_ <;> (first | refine AL.d (AOp.box_ro (v := .st [.int .i64 k, .int .i64 ar, .str nm, strs vars, strs args, .sl (kids.map GFml.av)]) rfl rfl) ?_ | refine AL.d (AOp.box_ro rfl rfl) ?_) <;> refine AL.es 1 ?_ <;> refine AL.nil ?_) | (refine AW.r 1 ?_ <;> refine AL.es 1 ?_ <;> refine AL.d (AOp.lit (e := 25) (sz := 6) (by kernel_rfl) rfl rfl rfl (P_one rfl) (by decide)) ?_ <;> (first | refine AL.d (AOp.call rfl rfl hF) ?_ | refine AL.d (AOp.call rfl rfl hN) ?_ | refine AL.d (AOp.call rfl rfl hV) ?_ | refine AL.d (AOp.call rfl rfl hWn) ?_ | refine AL.d (AOp.call rfl rfl hVW) ?_ | refine AL.d (AOp.call rfl rfl hSW) ?_ | refine AL.d (AOp.call rfl rfl hAl) ?_) <;> refine AL.es 1 ?_ <;> refine AL.nil ?_) | (refine AW.r 3 ?_ <;> refine AL.es 1 ?_ <;> (first | refine AL.d (AOp.call rfl rfl hF) ?_ | refine AL.d (AOp.call rfl rfl hN) ?_ | refine AL.d (AOp.call rfl rfl hV) ?_ | refine AL.d (AOp.call rfl rfl hWn) ?_ | refine AL.d (AOp.call rfl rfl hVW) ?_ | refine AL.d (AOp.call rfl rfl hSW) ?_ | refine AL.d (AOp.call rfl rfl hAl) ?_) <;> refine AL.es 3 ?_ <;> refine AL.alloc_store (by kernel_rfl) rfl rfl rfl rfl ?_ <;> refine AL.es 1 ?_ <;> refine AL.nil ?_) | (refine AW.r 4 ?_ <;> refine AL.es 1 ?_ <;> (first | refine AL.d (AOp.call rfl rfl hF) ?_ | refine AL.d (AOp.call rfl rfl hN) ?_ | refine AL.d (AOp.call rfl rfl hV) ?_ | refine AL.d (AOp.call rfl rfl hWn) ?_ | refine AL.d (AOp.call rfl rfl hVW) ?_ | refine AL.d (AOp.call rfl rfl hSW) ?_ | refine AL.d (AOp.call rfl rfl hAl) ?_) <;> refine AL.es 1 ?_ <;> refine AL.nil ?_) | (refine AW.r 6 ?_ <;> refine AL.es 1 ?_ <;> (first | refine AL.d (AOp.call rfl rfl hF) ?_ | refine AL.d (AOp.call rfl rfl hN) ?_ | refine AL.d (AOp.call rfl rfl hV) ?_ | refine AL.d (AOp.call rfl rfl hWn) ?_ | refine AL.d (AOp.call rfl rfl hVW) ?_ | refine AL.d (AOp.call rfl rfl hSW) ?_ | refine AL.d (AOp.call rfl rfl hAl) ?_) <;> refine AL.alloc_store (by kernel_rfl) rfl rfl rfl rfl ?_ <;> refine AL.nil ?_) | (refine AW.r 7 ?_ <;> refine AL.es 1 ?_ <;> (first | refine AL.d (AOp.call rfl rfl hF) ?_ | refine AL.d (AOp.call rfl rfl hN) ?_ | refine AL.d (AOp.call rfl rfl hV) ?_ | refine AL.d (AOp.call rfl rfl hWn) ?_ | refine AL.d (AOp.call rfl rfl hVW) ?_ | refine AL.d (AOp.call rfl rfl hSW) ?_ | refine AL.d (AOp.call rfl rfl hAl) ?_) <;> refine AL.es 1 ?_ <;> refine AL.nil ?_) | (refine AW.r 9 ?_ <;> refine AL.es 3 ?_ <;> (first | refine AL.es 2 ?_ | (refine AL.gx (fun hb => ?_) (fun hb => ?_) <;> refine AL.es 2 ?_)) <;> (first | (refine AL.gd ?_; (first | refine AL.d (AOp.call rfl rfl hF) ?_ | refine AL.d (AOp.call rfl rfl hN) ?_ | refine AL.d (AOp.call rfl rfl hV) ?_ | refine AL.d (AOp.call rfl rfl hWn) ?_ | refine AL.d (AOp.call rfl rfl hVW) ?_ | refine AL.d (AOp.call rfl rfl hSW) ?_ | refine AL.d (AOp.call rfl rfl hAl) ?_)) | refine AL.gs ?_ | refine AL.gu ?_) <;> refine AL.es 2 ?_ <;> (first | (refine AL.gd ?_; (first | refine AL.d (AOp.call rfl rfl hF) ?_ | refine AL.d (AOp.call rfl rfl hN) ?_ | refine AL.d (AOp.call rfl rfl hV) ?_ | refine AL.d (AOp.call rfl rfl hWn) ?_ | refine AL.d (AOp.call rfl rfl hVW) ?_ | refine AL.d (AOp.call rfl rfl hSW) ?_ | refine AL.d (AOp.call rfl rfl hAl) ?_)) | refine AL.gs ?_ | refine AL.gu ?_ | (refine AL.gx (fun hb => ?_) (fun hb => ?_) <;> first | (refine AL.gd ?_; (first | refine AL.d (AOp.call rfl rfl hF) ?_ | refine AL.d (AOp.call rfl rfl hN) ?_ | refine AL.d (AOp.call rfl rfl hV) ?_ | refine AL.d (AOp.call rfl rfl hWn) ?_ | refine AL.d (AOp.call rfl rfl hVW) ?_ | refine AL.d (AOp.call rfl rfl hSW) ?_ | refine AL.d (AOp.call rfl rfl hAl) ?_)) | refine AL.gs ?_)) <;> refine AL.es 2 ?_ <;> refine AL.nil ?_) | refine AW.jt ?_ | refine AW.jf ?_ | refine AW.jj (fun hb => ?_) (fun hb => ?_) | refine AW.go ?_ | fail)
        exact AW.retv rfl ⟨rfl, rfl⟩
  · rw [decide_eq_false hfew] at hF
    obtain ⟨k, ar, nm, vars, args, kids⟩ := f
    refine Tri.enter 54 Tryd.func3 rfl rfl rfl rfl fun Fr w0 => ?_
    repeat' (first | (refine AW.r 0 ?_ <;> (first | refine AL.d (AOp.box_ro (v := .st [.int .i64 k, .int .i64 ar, .str nm, strs vars, strs args, .sl (kids.map GFml.av)]) rfl rfl) ?_ | refine AL.d (AOp.box_ro rfl rfl) ?_) <;> refine AL.es 1 ?_ <;> refine AL.nil ?_) | (refine AW.r 1 ?_ <;> refine AL.es 1 ?_ <;> refine AL.d (AOp.lit (e := 25) (sz := 6) (by kernel_rfl) rfl rfl rfl (P_one rfl) (by decide)) ?_ <;> (first | refine AL.d (AOp.call rfl rfl hF) ?_ | refine AL.d (AOp.call rfl rfl hAl) ?_) <;> refine AL.es 1 ?_ <;> refine AL.nil ?_) | (refine AW.r 2 ?_ <;> (first | refine AL.d (AOp.call rfl rfl hF) ?_ | refine AL.d (AOp.call rfl rfl hAl) ?_) <;> refine AL.es 1 ?_ <;> refine AL.nil ?_) | refine AW.jt ?_ | refine AW.jf ?_ | refine AW.jj (fun hb => ?_) (fun hb => ?_) | refine AW.go ?_ | fail)
    exact AW.retv rfl ⟨rfl, rfl⟩
end Go.Proofs.YtlpndgodkkndnaaDoor
namespace Go.Proofs.YtlpndgodkkndnaaDoor
open Go.RowKit Go.SX
set_option maxRecDepth 100000
set_option maxHeartbeats 4000000
set_option linter.unusedVariables false
set_option linter.unusedSimpArgs false
theorem rules_v1 (k : Int) : (rulesP k).v1 ≤ 24 := by
  unfold rulesP
  repeat' split
  all_goals decide
theorem shaped_vars {f : GFml} (h : shapedP f = true) : f.Vars.length ≤ 24 := by
  simp only [shapedP, shp3, Bool.and_eq_true, decide_eq_true_eq] at h
  have h1 := h.2.1.2.1.2
  have h2 := rules_v1 f.Kind
  omega
theorem rules_a1 (k : Int) : (rulesP k).a1 ≤ 24 := by
  unfold rulesP
  repeat' split
  all_goals decide
theorem shaped_args {f : GFml} (h : shapedP f = true) : f.Args.length ≤ 24 := by
  simp only [shapedP, shp3, Bool.and_eq_true, decide_eq_true_eq] at h
  have h1 := h.2.1.1.1.2
  have h2 := rules_a1 f.Kind
  omega
theorem varOk_of (f : GFml) : shsF f = true → VarOk f := by
  generalize hN : ndF f = N
  induction N using Nat.strongRecOn generalizing f with
  | _ N ih =>
    intro h
    have hnd := ndF_eq f
    rw [shsF_eq, Bool.and_eq_true] at h
    exact .mk (by have := shaped_vars h.2; omega) fun x hx => ih (ndF x) (by have := ndFs_mem hx; omega) x rfl (shsFs_mem h.1 hx)
theorem n_Rank (f : GFml) (ho : f.Ok) (hn : ndF f ≤ 1000000) : Tri Tryd.prog 15 [f.st] [] (D (.tup [.int .i64 (bif validF f then rkF f else 0), .int .i64 (bif validF f then 0 else 1)]) []) := by
  have hv := f_Valid f ho
  have hR := fun h => n_rank _ f (Nat.le_refl _) ho (varOk_of f (validF_shs h)) hn
  generalize validF f = V at *
  obtain ⟨k, ar, nm, vars, args, kids⟩ := f
  cases V with
  | true =>
    have hR' := hR rfl
    rw [cond_true, cond_true]
    refine Tri.enter 9 Tryd.func15 rfl rfl rfl rfl fun Fr w0 => ?_
    repeat' (first | (refine AW.r 0 ?_ <;> (first | refine AL.d (AOp.box_ro (v := .st [.int .i64 k, .int .i64 ar, .str nm, strs vars, strs args, .sl (kids.map GFml.av)]) rfl rfl) ?_ | refine AL.d (AOp.box_ro rfl rfl) ?_) <;> refine AL.es 2 ?_ <;> refine AL.nil ?_) | (refine AW.r 1 ?_ <;> refine AL.es 1 ?_ <;> (first | refine AL.d (AOp.call rfl rfl hv) ?_ | refine AL.d (AOp.call rfl rfl hR') ?_) <;> refine AL.es 1 ?_ <;> refine AL.nil ?_) | (refine AW.r 3 ?_ <;> refine AL.es 1 ?_ <;> (first | refine AL.d (AOp.call rfl rfl hv) ?_ | refine AL.d (AOp.call rfl rfl hR') ?_) <;> refine AL.es 2 ?_ <;> refine AL.nil ?_) | refine AW.jt ?_ | refine AW.jf ?_ | refine AW.jj (fun hb => ?_) (fun hb => ?_) | refine AW.go ?_ | fail)
    exact AW.retv rfl ⟨rfl, rfl⟩
  | false =>
    rw [cond_false, cond_false]
    refine Tri.enter 9 Tryd.func15 rfl rfl rfl rfl fun Fr w0 => ?_
    repeat' (first | (refine AW.r 0 ?_ <;> (first | refine AL.d (AOp.box_ro (v := .st [.int .i64 k, .int .i64 ar, .str nm, strs vars, strs args, .sl (kids.map GFml.av)]) rfl rfl) ?_ | refine AL.d (AOp.box_ro rfl rfl) ?_) <;> refine AL.es 2 ?_ <;> refine AL.nil ?_) | (refine AW.r 1 ?_ <;> refine AL.es 1 ?_ <;> refine AL.d (AOp.call rfl rfl hv) ?_ <;> refine AL.es 1 ?_ <;> refine AL.nil ?_) | refine AW.re 2 2 ?_ | refine AW.jt ?_ | refine AW.jf ?_ | refine AW.jj (fun hb => ?_) (fun hb => ?_) | refine AW.go ?_ | fail)
    exact AW.retv rfl ⟨rfl, rfl⟩
theorem law_NormAgain (f : GFml) (ho : f.Ok) : Tri Tryd.prog 4 [f.st] [] (D (.bool true) []) := by
  have hF := few_one 1500 (by omega) f ho
  have hAl := alive
  by_cases hfew : wFs 1500 [f] 0 ≤ 1500
  · rw [decide_eq_true hfew] at hF
    have hnd := few_nd hfew (by omega)
    have hN := n_Nnf f ho
    have hV := f_Valid f ho
    have hwk := nn_ok f false ho
    have hwn := nn_nd f false
    have hRa := n_Rank f ho (by omega)
    have hRb := n_Rank (nnF f false) hwk (by omega)
    have hM := n_Nnf (nnF f false) hwk
    have hS := ref_Same _ (nnF f false) (nnF f false) (Nat.le_refl _) hwk hwk
    have hrk := fun h => nn_rk f false (validF_shs h)
    rw [eqF_refl] at hS
    unfold nnfP fitF at hN hM
    rw [nn_nn] at hM
    clear hwk hwn hnd hfew
    generalize nnF f false = g at *
    generalize validF f = V at *
    generalize validF g = W at *
    generalize rkF f = ra at *
    generalize rkF g = rb at *
    obtain ⟨k, ar, nm, vars, args, kids⟩ := f
    cases V with
    | false =>
      refine Tri.enter 70 Tryd.func4 rfl rfl rfl rfl fun Fr w0 => ?_
      repeat' (first | (refine AW.r 0 ?_ <;> (first | refine AL.d (AOp.box_ro (v := .st [.int .i64 k, .int .i64 ar, .str nm, strs vars, strs args, .sl (kids.map GFml.av)]) rfl rfl) ?_ | refine AL.d (AOp.box_ro rfl rfl) ?_) <;> refine AL.es 1 ?_ <;> refine AL.nil ?_) | (refine AW.r 1 ?_ <;> refine AL.es 1 ?_ <;> refine AL.d (AOp.lit (e := 25) (sz := 6) (by kernel_rfl) rfl rfl rfl (P_one rfl) (by decide)) ?_ <;> (first | refine AL.d (AOp.call rfl rfl hF) ?_ | refine AL.d (AOp.call rfl rfl hN) ?_ | refine AL.d (AOp.call rfl rfl hV) ?_ | refine AL.d (AOp.call rfl rfl hAl) ?_) <;> refine AL.es 1 ?_ <;> refine AL.nil ?_) | (refine AW.r 3 ?_ <;> refine AL.es 1 ?_ <;> (first | refine AL.d (AOp.call rfl rfl hF) ?_ | refine AL.d (AOp.call rfl rfl hN) ?_ | refine AL.d (AOp.call rfl rfl hV) ?_ | refine AL.d (AOp.call rfl rfl hAl) ?_) <;> refine AL.es 3 ?_ <;> refine AL.alloc_store (by kernel_rfl) rfl rfl rfl rfl ?_ <;> refine AL.es 1 ?_ <;> refine AL.nil ?_) | refine AW.re 4 2 ?_ | (refine AW.r 5 ?_ <;> refine AL.es 3 ?_ <;> (first | refine AL.d (AOp.call rfl rfl hF) ?_ | refine AL.d (AOp.call rfl rfl hN) ?_ | refine AL.d (AOp.call rfl rfl hV) ?_ | refine AL.d (AOp.call rfl rfl hAl) ?_) <;> refine AL.es 1 ?_ <;> (first | refine AL.e ?_ | refine AL.d AOp.be ?_) <;> refine AL.es 1 ?_ <;> (first | (refine AL.gd ?_; (first | refine AL.d (AOp.call rfl rfl hF) ?_ | refine AL.d (AOp.call rfl rfl hN) ?_ | refine AL.d (AOp.call rfl rfl hV) ?_ | refine AL.d (AOp.call rfl rfl hAl) ?_)) | refine AL.gs ?_ | refine AL.gu ?_ | (refine AL.gx (fun hb => ?_) (fun hb => ?_) <;> first | (refine AL.gd ?_; (first | refine AL.d (AOp.call rfl rfl hF) ?_ | refine AL.d (AOp.call rfl rfl hN) ?_ | refine AL.d (AOp.call rfl rfl hV) ?_ | refine AL.d (AOp.call rfl rfl hAl) ?_)) | refine AL.gs ?_)) <;> refine AL.es 2 ?_ <;> refine AL.nil ?_) | refine AW.jt ?_ | refine AW.jf ?_ | refine AW.jj (fun hb => ?_) (fun hb => ?_) | refine AW.go ?_ | fail)
      exact AW.retv rfl ⟨rfl, rfl⟩
    | true =>
      cases W with
      | false =>
        refine Tri.enter 70 Tryd.func4 rfl rfl rfl rfl fun Fr w0 => ?_
        repeat' (first | (refine AW.r 0 ?_ <;> (first | refine AL.d (AOp.box_ro (v := .st [.int .i64 k, .int .i64 ar, .str nm, strs vars, strs args, .sl (kids.map GFml.av)]) rfl rfl) ?_ | refine AL.d (AOp.box_ro rfl rfl) ?_) <;> refine AL.es 1 ?_ <;> refine AL.nil ?_) | (refine AW.r 1 ?_ <;> refine AL.es 1 ?_ <;> refine AL.d (AOp.lit (e := 25) (sz := 6) (by kernel_rfl) rfl rfl rfl (P_one rfl) (by decide)) ?_ <;> (first | refine AL.d (AOp.call rfl rfl hF) ?_ | refine AL.d (AOp.call rfl rfl hN) ?_ | refine AL.d (AOp.call rfl rfl hV) ?_ | refine AL.d (AOp.call rfl rfl hAl) ?_) <;> refine AL.es 1 ?_ <;> refine AL.nil ?_) | (refine AW.r 3 ?_ <;> refine AL.es 1 ?_ <;> (first | refine AL.d (AOp.call rfl rfl hF) ?_ | refine AL.d (AOp.call rfl rfl hN) ?_ | refine AL.d (AOp.call rfl rfl hV) ?_ | refine AL.d (AOp.call rfl rfl hAl) ?_) <;> refine AL.es 3 ?_ <;> refine AL.alloc_store (by kernel_rfl) rfl rfl rfl rfl ?_ <;> refine AL.es 1 ?_ <;> refine AL.nil ?_) | refine AW.re 4 2 ?_ | (refine AW.r 5 ?_ <;> refine AL.es 3 ?_ <;> (first | refine AL.d (AOp.call rfl rfl hF) ?_ | refine AL.d (AOp.call rfl rfl hN) ?_ | refine AL.d (AOp.call rfl rfl hV) ?_ | refine AL.d (AOp.call rfl rfl hAl) ?_) <;> refine AL.es 1 ?_ <;> (first | refine AL.e ?_ | refine AL.d AOp.be ?_) <;> refine AL.es 1 ?_ <;> (first | (refine AL.gd ?_; (first | refine AL.d (AOp.call rfl rfl hF) ?_ | refine AL.d (AOp.call rfl rfl hN) ?_ | refine AL.d (AOp.call rfl rfl hV) ?_ | refine AL.d (AOp.call rfl rfl hAl) ?_)) | refine AL.gs ?_ | refine AL.gu ?_ | (refine AL.gx (fun hb => ?_) (fun hb => ?_) <;> first | (refine AL.gd ?_; (first | refine AL.d (AOp.call rfl rfl hF) ?_ | refine AL.d (AOp.call rfl rfl hN) ?_ | refine AL.d (AOp.call rfl rfl hV) ?_ | refine AL.d (AOp.call rfl rfl hAl) ?_)) | refine AL.gs ?_)) <;> refine AL.es 2 ?_ <;> refine AL.nil ?_) | refine AW.jt ?_ | refine AW.jf ?_ | refine AW.jj (fun hb => ?_) (fun hb => ?_) | refine AW.go ?_ | fail)
        exact AW.retv rfl ⟨rfl, rfl⟩
      | true =>
        have hrk' : rb = ra := hrk rfl
        subst hrk'
        refine Tri.enter 70 Tryd.func4 rfl rfl rfl rfl fun Fr w0 => ?_
        repeat' (first | (refine AW.r 0 ?_ <;> (first | refine AL.d (AOp.box_ro (v := .st [.int .i64 k, .int .i64 ar, .str nm, strs vars, strs args, .sl (kids.map GFml.av)]) rfl rfl) ?_ | refine AL.d (AOp.box_ro rfl rfl) ?_) <;> refine AL.es 1 ?_ <;> refine AL.nil ?_) | (refine AW.r 1 ?_ <;> refine AL.es 1 ?_ <;> refine AL.d (AOp.lit (e := 25) (sz := 6) (by kernel_rfl) rfl rfl rfl (P_one rfl) (by decide)) ?_ <;> (first | refine AL.d (AOp.call rfl rfl hF) ?_ | refine AL.d (AOp.call rfl rfl hN) ?_ | refine AL.d (AOp.call rfl rfl hM) ?_ | refine AL.d (AOp.call rfl rfl hRa) ?_ | refine AL.d (AOp.call rfl rfl hRb) ?_) <;> refine AL.es 1 ?_ <;> refine AL.nil ?_) | (refine AW.r 3 ?_ <;> refine AL.es 1 ?_ <;> (first | refine AL.d (AOp.call rfl rfl hF) ?_ | refine AL.d (AOp.call rfl rfl hN) ?_ | refine AL.d (AOp.call rfl rfl hM) ?_ | refine AL.d (AOp.call rfl rfl hRa) ?_ | refine AL.d (AOp.call rfl rfl hRb) ?_) <;> refine AL.es 3 ?_ <;> refine AL.alloc_store (by kernel_rfl) rfl rfl rfl rfl ?_ <;> refine AL.es 1 ?_ <;> refine AL.nil ?_) | refine AW.re 4 2 ?_ | (refine AW.r 6 ?_ <;> refine AL.es 1 ?_ <;> (first | refine AL.d (AOp.call rfl rfl hF) ?_ | refine AL.d (AOp.call rfl rfl hN) ?_ | refine AL.d (AOp.call rfl rfl hM) ?_ | refine AL.d (AOp.call rfl rfl hRa) ?_ | refine AL.d (AOp.call rfl rfl hRb) ?_) <;> refine AL.es 3 ?_ <;> refine AL.alloc_store (by kernel_rfl) rfl rfl rfl rfl ?_ <;> refine AL.es 1 ?_ <;> refine AL.nil ?_) | (refine AW.r 7 ?_ <;> refine AL.es 1 ?_ <;> (first | refine AL.d (AOp.call rfl rfl hF) ?_ | refine AL.d (AOp.call rfl rfl hN) ?_ | refine AL.d (AOp.call rfl rfl hM) ?_ | refine AL.d (AOp.call rfl rfl hRa) ?_ | refine AL.d (AOp.call rfl rfl hRb) ?_) <;> refine AL.es 5 ?_ <;> refine AL.nil ?_) | (refine AW.r 8 ?_ <;> refine AL.es 1 ?_ <;> (first | refine AL.d (AOp.call rfl rfl hF) ?_ | refine AL.d (AOp.call rfl rfl hN) ?_ | refine AL.d (AOp.call rfl rfl hM) ?_ | refine AL.d (AOp.call rfl rfl hRa) ?_ | refine AL.d (AOp.call rfl rfl hRb) ?_) <;> refine AL.es 5 ?_ <;> refine AL.nil ?_) | refine AW.jt ?_ | refine AW.jf ?_ | refine AW.jj (fun hb => ?_) (fun hb => ?_) | refine AW.go ?_ | fail)
        repeat' (first | (refine AW.r 9 ?_ <;> refine AL.es 3 ?_ <;> (first | refine AL.es 4 ?_ | (refine AL.gx (fun hb => ?_) (fun hb => ?_) <;> refine AL.es 4 ?_)) <;> (first | refine AL.es 4 ?_ | (refine AL.gx (fun hb => ?_) (fun hb => ?_) <;> refine AL.es 4 ?_)) <;> (first | refine AL.es 2 ?_ | (refine AL.gx (fun hb => ?_) (fun hb => ?_) <;> refine AL.es 2 ?_)) <;> (first | (refine AL.gd ?_; (first | refine AL.d (AOp.call rfl rfl hS) ?_ | refine AL.d (AOp.call rfl rfl hAl) ?_)) | refine AL.gs ?_ | refine AL.gu ?_) <;> refine AL.es 2 ?_ <;> (first | refine AL.es 5 ?_ | (refine AL.gx (fun hb => ?_) (fun hb => ?_) <;> refine AL.es 5 ?_)) <;> (first | (refine AL.gd ?_; (first | refine AL.d (AOp.call rfl rfl hS) ?_ | refine AL.d (AOp.call rfl rfl hAl) ?_)) | refine AL.gs ?_ | refine AL.gu ?_ | (refine AL.gx (fun hb => ?_) (fun hb => ?_) <;> first | (refine AL.gd ?_; (first | refine AL.d (AOp.call rfl rfl hS) ?_ | refine AL.d (AOp.call rfl rfl hAl) ?_)) | refine AL.gs ?_)) <;> refine AL.es 2 ?_ <;> refine AL.nil ?_) | refine AW.jt ?_ | refine AW.jf ?_ | refine AW.jj (fun hb => ?_) (fun hb => ?_) | refine AW.go ?_ | fail)
        all_goals first
          | exact AW.retv rfl ⟨rfl, rfl⟩
          | exact AW.retv rfl ⟨retB (by simp_all), rfl⟩
          | (exfalso; simp_all; done)
  · rw [decide_eq_false hfew] at hF
    obtain ⟨k, ar, nm, vars, args, kids⟩ := f
    refine Tri.enter 70 Tryd.func4 rfl rfl rfl rfl fun Fr w0 => ?_
    repeat' (first | (refine AW.r 0 ?_ <;> (first | refine AL.d (AOp.box_ro (v := .st [.int .i64 k, .int .i64 ar, .str nm, strs vars, strs args, .sl (kids.map GFml.av)]) rfl rfl) ?_ | refine AL.d (AOp.box_ro rfl rfl) ?_) <;> refine AL.es 1 ?_ <;> refine AL.nil ?_) | (refine AW.r 1 ?_ <;> refine AL.es 1 ?_ <;> refine AL.d (AOp.lit (e := 25) (sz := 6) (by kernel_rfl) rfl rfl rfl (P_one rfl) (by decide)) ?_ <;> (first | refine AL.d (AOp.call rfl rfl hF) ?_ | refine AL.d (AOp.call rfl rfl hAl) ?_) <;> refine AL.es 1 ?_ <;> refine AL.nil ?_) | (refine AW.r 2 ?_ <;> (first | refine AL.d (AOp.call rfl rfl hF) ?_ | refine AL.d (AOp.call rfl rfl hAl) ?_) <;> refine AL.es 1 ?_ <;> refine AL.nil ?_) | refine AW.jt ?_ | refine AW.jf ?_ | refine AW.jj (fun hb => ?_) (fun hb => ?_) | refine AW.go ?_ | fail)
    exact AW.retv rfl ⟨rfl, rfl⟩
end Go.Proofs.YtlpndgodkkndnaaDoor
namespace Go.Proofs.YtlpndgodkkndnaaDoor
open Go.RowKit Go.SX
set_option maxRecDepth 100000
set_option maxHeartbeats 4000000
set_option linter.unusedVariables false
set_option linter.unusedSimpArgs false
def addV (out : List ByteArray) (v : ByteArray) : List ByteArray := if (out.any fun x => decide (x = v)) = true then out else out ++ [v]
def addVs : List ByteArray → List ByteArray → List ByteArray
  | [], out => out
  | v :: l, out => addVs l (addV out v)
mutual
def vrF : GFml → List ByteArray → List ByteArray
  | ⟨_, _, _, vars, args, kids⟩, out => vrL kids (addVs args (addVs vars out))
def vrL : List GFml → List ByteArray → List ByteArray
  | [], out => out
  | x :: l, out => vrL l (vrF x out)
end
theorem addVs_app : ∀ (a b out : List ByteArray), addVs (a ++ b) out = addVs b (addVs a out)
  | [], b, out => rfl
  | v :: a, b, out => by rw [List.cons_append, addVs, addVs, addVs_app a b]
theorem addV_len (out : List ByteArray) (v : ByteArray) : (addV out v).length ≤ out.length + 1 := by
  unfold addV; split <;> simp
theorem addVs_len : ∀ (l out : List ByteArray), (addVs l out).length ≤ out.length + l.length
  | [], out => by simp [addVs]
  | v :: l, out => by
    have h1 := addV_len out v
    have h2 := addVs_len l (addV out v)
    rw [addVs, List.length_cons]; omega
mutual
theorem vrF_len : ∀ (f : GFml) (out : List ByteArray), shsF f = true → (vrF f out).length ≤ out.length + 48 * ndF f
  | ⟨k, ar, nm, vars, args, kids⟩, out, h => by
    rw [shsF, Bool.and_eq_true] at h
    have h1 := shaped_vars h.2
    have h2 := shaped_args h.2
    have h3 := addVs_len vars out
    have h4 := addVs_len args (addVs vars out)
    have h5 := vrL_len kids (addVs args (addVs vars out)) h.1
    simp only at h1 h2
    rw [vrF, ndF]; omega
theorem vrL_len : ∀ (l : List GFml) (out : List ByteArray), shsFs l = true → (vrL l out).length ≤ out.length + 48 * ndFs l
  | [], out, h => by rw [vrL, ndFs]; omega
  | x :: l, out, h => by
    rw [shsFs, Bool.and_eq_true] at h
    have h1 := vrF_len x out h.1
    have h2 := vrL_len l (vrF x out) h.2
    rw [vrL, ndFs]; omega
end
def bmap (out : List ByteArray) : List (ByteArray × Bool) := out.map fun s => (s, true)
theorem setA_bmap (v : ByteArray) : ∀ out : List ByteArray, setA (bmap out) v true = bmap (addV out v)
  | [] => rfl
  | s :: out => by
    have ih := setA_bmap v out
    simp only [bmap, List.map_cons, setA] at ih ⊢
    unfold addV at ih ⊢
    by_cases e : v = s
    · subst e; simp
    · rw [if_neg e, ih, List.any_cons, decide_eq_false (fun h => e h.symm), Bool.false_or]
      split <;> simp
theorem n_vars : ∀ (N : Nat) (f : GFml) (out : List ByteArray) (mb : Nat) (g : MG), ndF f ≤ N → f.Ok →
    Tri Tryd.prog 40 [f.st, .map mb] [.map mb (kvW bav (bmap out)) g] (fun x h => x = .ret (.tup []) ∧ ∃ g', h = [.map mb (kvW bav (bmap (vrF f out))) g']) := by
  intro N
  induction N using Nat.strongRecOn with
  | _ N ih =>
    intro f out mb g hN ho
    have hnd := ndF_eq f
    obtain ⟨⟨_, _, _, q4, q5⟩, q6, q7⟩ := ho
    have l4 := q4.1
    have l5 := q5.1
    obtain ⟨k, ar, nm, vars, args, kids⟩ := f
    rw [vrF]
    simp only at *
    refine Tri.enter 41 Tryd.func40 rfl rfl rfl rfl fun Fr w0 => ?_
    repeat' (first | (refine AW.r 0 ?_ <;> (first | refine AL.d (AOp.box_ro (v := .st [.int .i64 k, .int .i64 ar, .str nm, strs vars, strs args, .sl (kids.map GFml.av)]) rfl rfl) ?_ | refine AL.d (AOp.box_ro rfl rfl) ?_) <;> refine AL.nil ?_) | (refine AW.r 1 ?_ <;> refine AL.es 4 ?_ <;> refine AL.d (AOp.lit (t := 86) (e := 22) (sz := 1) (by kernel_rfl) rfl rfl rfl (by simp [AV.size, strs]) (by decide)) ?_ <;> refine AL.es 2 ?_ <;> refine AL.nil ?_) | refine AW.jt ?_ | refine AW.jf ?_ | refine AW.jj (fun hb => ?_) (fun hb => ?_) | refine AW.go ?_ | fail)
    refine AW.prune [1, 2, 14, 15, 16] (AW.loop (fun mz af h => ∃ (i : Nat) (o : List ByteArray) (gg : MG), i ≤ 2 ∧ mz = 2 - i ∧ af = [(1, .map mb), (2, .at (.st [.int .i64 k, .int .i64 ar, .str nm, strs vars, strs args, .sl (kids.map GFml.av)])), (14, .sl ([vars, args].map strs)), (15, .int .i64 ([vars, args].map strs).length), (16, .int .i64 i)] ∧ h = [.map mb (kvW bav (bmap o)) gg] ∧ addVs args (addVs vars out) = ([vars, args].drop i).foldl (fun o l => addVs l o) o) 2 ⟨0, out, g, Nat.zero_le _, rfl, rfl, rfl, rfl⟩ ?_)
    rintro mz af h ⟨i, o, gg, hi, rfl, rfl, rfl, he⟩
    refine AW.seq ?_
    by_cases hlt : i < 2
    · obtain ⟨l, hl⟩ : ∃ l, [vars, args][i]? = some l := get_lt (by simpa using hlt)
      have hl' : ([vars, args].map strs)[((i : Nat) : Int).toNat]? = some (strs l) := map_get hl
      have hll : l.length ≤ 8796093022208 := by
        have := List.mem_of_getElem? hl
        simp only [List.mem_cons, List.not_mem_nil, or_false] at this
        rcases this with rfl | rfl <;> omega
      rw [drop_cons hl, List.foldl_cons] at he
      obtain ⟨I0, hI0⟩ : ∃ j : Nat, j = i := ⟨i, rfl⟩
      subst hI0
      have hlt0 := hlt
      have he0 := he
      repeat' (first | refine AW.re 2 1 ?_ | refine AW.jt ?_ | refine AW.jf ?_ | refine AW.jj (fun hb => ?_) (fun hb => ?_) | refine AW.go ?_ | fail)
      all_goals try (exfalso; simp only [decide_eq_true_eq, decide_eq_false_iff_not, List.length_map, List.length_cons, List.length_nil] at *; omega)
      repeat' (first | (refine AW.r 3 ?_ <;> refine AL.d (AOp.index_sl rfl rfl (by omega) hl' (by kernel_rfl) rfl) ?_ <;> refine AL.es 2 ?_ <;> refine AL.nil ?_) | refine AW.re 4 3 ?_ | refine AW.jt ?_ | refine AW.jf ?_ | refine AW.jj (fun hb => ?_) (fun hb => ?_) | refine AW.go ?_ | fail)
      refine AW.prune [1, 2, 14, 15, 16, 20, 21, 22] (AW.loop (fun mz af h => ∃ (i : Nat) (o2 : List ByteArray) (g2 : MG), i ≤ l.length ∧ mz = l.length - i ∧ af = [(1, .map mb), (2, .at (.st [.int .i64 k, .int .i64 ar, .str nm, strs vars, strs args, .sl (kids.map GFml.av)])), (14, .sl ([vars, args].map strs)), (15, .int .i64 ([vars, args].map strs).length), (16, .int .i64 I0), (20, strs l), (21, .int .i64 (l.map AV.str).length), (22, .int .i64 i)] ∧ h = [.map mb (kvW bav (bmap o2)) g2] ∧ addVs l o = addVs (l.drop i) o2) l.length ⟨0, o, gg, Nat.zero_le _, rfl, rfl, rfl, rfl⟩ ?_)
      rintro mz af h ⟨i, o2, g2, hi, rfl, rfl, rfl, he⟩
      refine AW.seq ?_
      by_cases hlt : i < l.length
      · obtain ⟨x, hx⟩ := get_lt hlt
        have hx' : (l.map AV.str)[((i : Nat) : Int).toNat]? = some (.str x) := map_get hx
        rw [drop_cons hx, addVs] at he
        repeat' (first | refine AW.re 5 1 ?_ | (refine AW.r 6 ?_ <;> refine AL.d (AOp.index_sl rfl rfl (by omega) hx' (by kernel_rfl) rfl) ?_ <;> refine AL.es 2 ?_ <;> refine AL.nil ?_) | (refine AW.r 7 ?_ <;> refine AL.es 2 ?_ <;> refine AL.setS 0 4 bav true rfl rfl rfl rfl (by kernel_rfl) ?_ <;> refine AL.nil ?_) | (refine AW.r 8 ?_ <;> refine AL.d AOp.ad ?_ <;> refine AL.es 1 ?_ <;> refine AL.nil ?_) | refine AW.jt ?_ | refine AW.jf ?_ | refine AW.jj (fun hb => ?_) (fun hb => ?_) | refine AW.go ?_ | fail)
        all_goals try (exfalso; simp only [decide_eq_true_eq, decide_eq_false_iff_not, List.length_map] at *; omega)
        rw [setA_bmap]
        refine AW.again_keep (l.length - (i + 1)) [1, 2, 14, 15, 16, 20, 21, 22] (by omega) ⟨i + 1, addV o2 x, _, hlt, rfl, rfl, rfl, ?_⟩
        exact he
      · rw [List.drop_eq_nil_of_le (by omega), addVs] at he
        repeat' (first | refine AW.re 5 1 ?_ | (refine AW.r 9 ?_ <;> refine AL.d AOp.ad ?_ <;> refine AL.es 1 ?_ <;> refine AL.nil ?_) | refine AW.jt ?_ | refine AW.jf ?_ | refine AW.jj (fun hb => ?_) (fun hb => ?_) | refine AW.go ?_ | fail)
        all_goals try (exfalso; simp only [decide_eq_true_eq, decide_eq_false_iff_not, List.length_map] at *; omega)
        rw [he] at he0
        exact AW.again_keep (2 - (I0 + 1)) [1, 2, 14, 15, 16] (by omega) ⟨I0 + 1, o2, g2, hlt0, rfl, rfl, rfl, he0⟩
    · have hi2 : i = 2 := by omega
      subst hi2
      have he : addVs args (addVs vars out) = o := he
      rw [he]
      clear hlt hi
      repeat' (first | refine AW.re 2 1 ?_ | refine AW.jt ?_ | refine AW.jf ?_ | refine AW.jj (fun hb => ?_) (fun hb => ?_) | refine AW.go ?_ | fail)
      all_goals try (exfalso; simp only [decide_eq_true_eq, decide_eq_false_iff_not, List.length_map, List.length_cons, List.length_nil] at *; omega)
      repeat' (first | refine AW.re 10 4 ?_ | refine AW.jt ?_ | refine AW.jf ?_ | refine AW.jj (fun hb => ?_) (fun hb => ?_) | refine AW.go ?_ | fail)
      refine AW.prune [1, 31, 32, 33] (AW.loop (fun mz af h => ∃ (i : Nat) (o2 : List ByteArray) (g2 : MG), i ≤ kids.length ∧ mz = kids.length - i ∧ af = [(1, .map mb), (31, .sl (kids.map GFml.av)), (32, .int .i64 (kids.map GFml.av).length), (33, .int .i64 i)] ∧ h = [.map mb (kvW bav (bmap o2)) g2] ∧ vrL kids o = vrL (kids.drop i) o2) kids.length ⟨0, o, gg, Nat.zero_le _, rfl, rfl, rfl, rfl⟩ ?_)
      rintro mz af h ⟨i, o2, g2, hi, rfl, rfl, rfl, he⟩
      refine AW.seq ?_
      by_cases hlt : i < kids.length
      · obtain ⟨x, hx⟩ := get_lt hlt
        have hx' : (kids.map GFml.av)[((i : Nat) : Int).toNat]? = some (x.st) := GFml.get hx
        have hxm := List.mem_of_getElem? hx
        have hnx := ndFs_mem hxm
        have hc := ih (ndF x) (by omega) x o2 mb g2 (Nat.le_refl _) (q7 x hxm)
        rw [drop_cons hx, vrL] at he
        repeat' (first | refine AW.re 11 1 ?_ | (refine AW.r 12 ?_ <;> refine AL.d (AOp.index_sl rfl rfl (by omega) hx' (by kernel_rfl) rfl) ?_ <;> refine AL.es 1 ?_ <;> refine AL.alloc_store (by kernel_rfl) rfl rfl rfl rfl ?_ <;> refine AL.nil ?_) | refine AW.jt ?_ | refine AW.jf ?_ | refine AW.jj (fun hb => ?_) (fun hb => ?_) | refine AW.go ?_ | fail)
        all_goals try (exfalso; simp only [decide_eq_true_eq, decide_eq_false_iff_not, List.length_map] at *; omega)
        repeat' (first | (refine AW.r 13 ?_ <;> refine AL.es 2 ?_ <;> (refine AL.callQ rfl rfl hc rfl ?_ ?_; rotate_left; rintro _ _ ⟨e, _⟩; cases e; rintro _ _ ⟨e, g3, rfl⟩; injection e with e; subst e) <;> refine AL.nil ?_) | refine AW.jt ?_ | refine AW.jf ?_ | refine AW.jj (fun hb => ?_) (fun hb => ?_) | refine AW.go ?_ | fail)
        repeat' (first | (refine AW.r 14 ?_ <;> refine AL.d AOp.ad ?_ <;> refine AL.es 1 ?_ <;> refine AL.nil ?_) | refine AW.jt ?_ | refine AW.jf ?_ | refine AW.jj (fun hb => ?_) (fun hb => ?_) | refine AW.go ?_ | fail)
        refine AW.again_keep (kids.length - (i + 1)) [1, 31, 32, 33] (by omega) ⟨i + 1, vrF x o2, g3, hlt, rfl, rfl, rfl, ?_⟩
        exact he
      · rw [List.drop_eq_nil_of_le (by omega), vrL] at he
        rw [he]
        repeat' (first | refine AW.re 11 1 ?_ | refine AW.jt ?_ | refine AW.jf ?_ | refine AW.jj (fun hb => ?_) (fun hb => ?_) | refine AW.go ?_ | fail)
        all_goals try (exfalso; simp only [decide_eq_true_eq, decide_eq_false_iff_not, List.length_map] at *; omega)
        exact AW.donev rfl ⟨rfl, _, rfl⟩
end Go.Proofs.YtlpndgodkkndnaaDoor
namespace Go.Proofs.YtlpndgodkkndnaaDoor
open Go.RowKit Go.SX
set_option maxRecDepth 100000
set_option maxHeartbeats 4000000
set_option linter.unusedVariables false
set_option linter.unusedSimpArgs false
theorem ref_vars : ∀ (N : Nat) (f : GFml) (out : List ByteArray) (tb : Option Nat) (tc : Nat), ndF f ≤ N → f.Ok → shsF f = true → out.length + 48 * ndF f ≤ 1000000 →
    Tri Tryd.prog 17 [f.st, .slt (out.map AV.str) tb tc] [.tail tb (out.map AV.str).length tc 1] (fun x h => ∃ b' c', x = .ret (.slt ((vrF f out).map AV.str) b' c') ∧ h = [.tail b' ((vrF f out).map AV.str).length c' 1]) := by
  intro N
  induction N using Nat.strongRecOn with
  | _ N ih =>
    intro f out tb tc hN ho hsh hlen
    have hnd := ndF_eq f
    obtain ⟨_, q6, q7⟩ := ho
    rw [shsF_eq, Bool.and_eq_true] at hsh
    have hv := shaped_vars hsh.2
    have ha := shaped_args hsh.2
    obtain ⟨k, ar, nm, vars, args, kids⟩ := f
    rw [vrF, ← addVs_app]
    simp only at *
    refine Tri.enter 50 Tryd.func17 rfl rfl rfl rfl fun Fr w0 => ?_
    repeat' (first | (refine AW.r 0 ?_ <;> (first | refine AL.d (AOp.box_ro (v := .st [.int .i64 k, .int .i64 ar, .str nm, strs vars, strs args, .sl (kids.map GFml.av)]) rfl rfl) ?_ | refine AL.d (AOp.box_ro rfl rfl) ?_) <;> refine AL.es 1 ?_ <;> refine AL.nil ?_) | refine AW.jt ?_ | refine AW.jf ?_ | refine AW.jj (fun hb => ?_) (fun hb => ?_) | refine AW.go ?_ | fail)
    repeat' (first | (refine AW.ex 1 [false] [0, 3, 6, 7] ?_ <;> refine AQE.hl ?_ <;> (first | refine AQE.p rfl AOp.fa ?_ | refine AQE.p rfl (AOp.fr 3) ?_) <;> refine AQE.p rfl AOp.la ?_ <;> refine AQE.hl ?_ <;> (first | refine AQE.p rfl AOp.fa ?_ | refine AQE.p rfl (AOp.fr 4) ?_) <;> refine AQE.p rfl AOp.la ?_ <;> refine AQE.hl ?_ <;> refine AQE.hl ?_ <;> refine AQE.nil ?_ <;> refine AX.o (n := 3) 0 ?_ <;> refine AXO.lit_own (e := 9) (sz := 1) (by kernel_rfl) rfl rfl rfl P_nil (by decide) fun b0 => ?_ <;> try dsimp only [List.set_cons_succ, List.set_cons_zero, List.getD_cons_succ, List.getD_cons_zero] <;> refine AX.o (n := 2) 3 ?_ <;> refine AXO.append (i := 0) (e := 9) (sz := 1) (bytes := 16) rfl rfl rfl rfl (by kernel_rfl) (by kernel_rfl) (by repeat' (first | exact P_nil | refine P_app ?_ ?_ | refine P_take ?_ | refine P_drop ?_ | exact P_map fun _ => rfl | exact P_one rfl | exact P_rep rfl)) (by repeat' (first | exact P_nil | refine P_app ?_ ?_ | refine P_take ?_ | refine P_drop ?_ | exact P_map fun _ => rfl | exact P_one rfl | exact P_rep rfl)) (ok_all (by repeat' (first | exact P_nil | refine P_app ?_ ?_ | refine P_take ?_ | refine P_drop ?_ | exact P_map fun _ => rfl | exact P_one rfl | exact P_rep rfl))) (by (try simp only [List.length_append, List.length_map, List.length_take, List.length_drop, List.length_cons, List.length_nil, List.length_replicate]); omega) (by (try simp only [List.length_append, List.length_map, List.length_take, List.length_drop, List.length_cons, List.length_nil, List.length_replicate]); omega) rfl fun b' c' => ?_ <;> try dsimp only [List.set_cons_succ, List.set_cons_zero, List.getD_cons_succ, List.getD_cons_zero] <;> refine AX.o (n := 1) 6 ?_ <;> refine AXO.append (i := 0) (e := 9) (sz := 1) (bytes := 16) rfl rfl rfl rfl (by kernel_rfl) (by kernel_rfl) (by repeat' (first | exact P_nil | refine P_app ?_ ?_ | refine P_take ?_ | refine P_drop ?_ | exact P_map fun _ => rfl | exact P_one rfl | exact P_rep rfl)) (by repeat' (first | exact P_nil | refine P_app ?_ ?_ | refine P_take ?_ | refine P_drop ?_ | exact P_map fun _ => rfl | exact P_one rfl | exact P_rep rfl)) (ok_all (by repeat' (first | exact P_nil | refine P_app ?_ ?_ | refine P_take ?_ | refine P_drop ?_ | exact P_map fun _ => rfl | exact P_one rfl | exact P_rep rfl))) (by (try simp only [List.length_append, List.length_map, List.length_take, List.length_drop, List.length_cons, List.length_nil, List.length_replicate]); omega) (by (try simp only [List.length_append, List.length_map, List.length_take, List.length_drop, List.length_cons, List.length_nil, List.length_replicate]); omega) rfl fun b' c' => ?_ <;> try dsimp only [List.set_cons_succ, List.set_cons_zero, List.getD_cons_succ, List.getD_cons_zero] <;> refine AX.o (n := 0) 7 ?_ <;> refine AXO.e ?_ <;> try dsimp only [List.set_cons_succ, List.set_cons_zero, List.getD_cons_succ, List.getD_cons_zero] <;> refine AX.done_keep [0, 1, 2, 4, 5, 6, 7, 15, 16, 17, 18, 19, 20, 21, 22, 23, 24, 25, 26, 27, 28, 29, 30, 31, 32, 33, 34, 35, 36, 37, 38, 39, 40, 41, 42, 43, 44, 45, 46, 47, 48, 49] ?_) | refine AW.jt ?_ | refine AW.jf ?_ | refine AW.jj (fun hb => ?_) (fun hb => ?_) | refine AW.go ?_ | fail)
    refine AW.as_sl 5 rfl ?_
    refine AW.drop (List.sublist_cons_self _ _) ?_
    have hm : (AV.sl ([] ++ vars.map AV.str ++ args.map AV.str)) = strs (vars ++ args) := by simp [strs]
    rw [hm]
    have hll : (vars ++ args).length ≤ 48 := by simp; omega
    generalize vars ++ args = l at *
    repeat' (first | refine AW.re 2 1 ?_ | refine AW.jt ?_ | refine AW.jf ?_ | refine AW.jj (fun hb => ?_) (fun hb => ?_) | refine AW.go ?_ | fail)
    refine AW.prune [1, 2, 5, 6] (AW.loop (fun mz af h => ∃ (i : Nat) (o : List ByteArray) (tt : Option Nat) (cc : Nat), i ≤ l.length ∧ mz = l.length - i ∧ af = [(1, .slt (o.map AV.str) tt cc), (2, .at (.st [.int .i64 k, .int .i64 ar, .str nm, strs vars, strs args, .sl (kids.map GFml.av)])), (5, strs l), (6, .int .i64 i)] ∧ h = [.tail tt (o.map AV.str).length cc 1] ∧ (addVs l out = addVs (l.drop i) o ∧ o.length ≤ out.length + i)) l.length ⟨0, out, tb, tc, Nat.zero_le _, rfl, rfl, rfl, ⟨rfl, by omega⟩⟩ ?_)
    rintro mz af h ⟨i, o, tt, cc, hi, rfl, rfl, rfl, he⟩
    refine AW.seq ?_
    by_cases hlt : i < l.length
    · obtain ⟨he, hol⟩ := he
      obtain ⟨x, hx⟩ := get_lt hlt
      have hx' : (l.map AV.str)[((i : Nat) : Int).toNat]? = some (.str x) := map_get hx
      have hM := ref_Among o x (by omega)
      rw [drop_cons hx, addVs] at he
      repeat' (first | refine AW.re 3 4 ?_ | refine AW.jt ?_ | refine AW.jf ?_ | refine AW.jj (fun hb => ?_) (fun hb => ?_) | refine AW.go ?_ | fail)
      all_goals try (exfalso; simp only [decide_eq_true_eq, decide_eq_false_iff_not, List.length_map] at *; omega)
      repeat' (first | (refine AW.r 5 ?_ <;> refine AL.es 3 ?_ <;> refine AL.d (AOp.index_sl rfl rfl (by omega) hx' (by kernel_rfl) rfl) ?_ <;> refine AL.es 1 ?_ <;> refine AL.d (AOp.call_slt rfl rfl rfl (hM.pure _)) ?_ <;> refine AL.es 1 ?_ <;> refine AL.nil ?_) | refine AW.jt ?_ | refine AW.jf ?_ | refine AW.jj (fun hb => ?_) (fun hb => ?_) | refine AW.go ?_ | fail)
      · have hq : ¬ (o.any fun y => decide (y = x)) = true := fun h => by rw [h] at hb; cases hb
        rw [addV, if_neg hq] at he
        have hm2 : (o ++ [x]).map AV.str = o.map AV.str ++ [.str x] := by simp
        repeat' (first | (refine AW.r 6 ?_ <;> refine AL.es 3 ?_ <;> refine AL.d (AOp.index_sl rfl rfl (by omega) hx' (by kernel_rfl) rfl) ?_ <;> refine AL.es 1 ?_ <;> refine AL.d (AOp.lit (e := 9) (sz := 1) (by kernel_rfl) rfl rfl rfl (P_one rfl) (by decide)) ?_ <;> refine AL.append (i := 0) (xs := o.map AV.str) (e := 9) (sz := 1) (bytes := 16) rfl rfl rfl rfl (by kernel_rfl) (by kernel_rfl) (P_map fun _ => rfl) (P_one rfl) rfl (by simp only [List.length_map]; simp; omega) (by simp only [List.length_map]; simp; omega) rfl fun b' c' => ?_ <;> refine AL.es 1 ?_ <;> refine AL.nil ?_) | (refine AW.r 4 ?_ <;> refine AL.es 1 ?_ <;> refine AL.d AOp.ad ?_ <;> refine AL.es 1 ?_ <;> refine AL.nil ?_) | refine AW.jt ?_ | refine AW.jf ?_ | refine AW.jj (fun hb => ?_) (fun hb => ?_) | refine AW.go ?_ | fail)
        rw [← hm2]
        refine AW.frame_eq rfl (show _ = [Own.tail b' ((o ++ [x]).map AV.str).length c' 1] from by rw [hm2]; rfl) ?_
        refine AW.again_keep (l.length - (i + 1)) [1, 2, 5, 6] (by omega) ⟨i + 1, o ++ [x], b', c', hlt, rfl, rfl, rfl, ?_⟩
        exact ⟨he, by simp; omega⟩
      · have hq : (o.any fun y => decide (y = x)) = true := by rw [Bool.not_eq_false'] at hb; exact hb
        rw [addV, if_pos hq] at he
        repeat' (first | (refine AW.r 4 ?_ <;> refine AL.es 1 ?_ <;> refine AL.d AOp.ad ?_ <;> refine AL.es 1 ?_ <;> refine AL.nil ?_) | refine AW.jt ?_ | refine AW.jf ?_ | refine AW.jj (fun hb => ?_) (fun hb => ?_) | refine AW.go ?_ | fail)
        refine AW.again_keep (l.length - (i + 1)) [1, 2, 5, 6] (by omega) ⟨i + 1, o, tt, cc, hlt, rfl, rfl, rfl, ?_⟩
        exact ⟨he, by omega⟩
    · obtain ⟨he, hol⟩ := he
      rw [List.drop_eq_nil_of_le (by omega), addVs] at he
      rw [he]
      repeat' (first | refine AW.re 3 4 ?_ | refine AW.re 7 1 ?_ | refine AW.jt ?_ | refine AW.jf ?_ | refine AW.jj (fun hb => ?_) (fun hb => ?_) | refine AW.go ?_ | fail)
      all_goals try (exfalso; simp only [decide_eq_true_eq, decide_eq_false_iff_not, List.length_map] at *; omega)
      refine AW.prune [1, 2, 7] (AW.loop (fun mz af h => ∃ (i : Nat) (o2 : List ByteArray) (t2 : Option Nat) (c2 : Nat), i ≤ kids.length ∧ mz = kids.length - i ∧ af = [(1, .slt (o2.map AV.str) t2 c2), (2, .at (.st [.int .i64 k, .int .i64 ar, .str nm, strs vars, strs args, .sl (kids.map GFml.av)])), (7, .int .i64 i)] ∧ h = [.tail t2 (o2.map AV.str).length c2 1] ∧ (vrL kids o = vrL (kids.drop i) o2 ∧ o2.length + 48 * ndFs (kids.drop i) ≤ 1000000)) kids.length ⟨0, o, tt, cc, Nat.zero_le _, rfl, rfl, rfl, ⟨rfl, by simp only [List.drop_zero]; omega⟩⟩ ?_)
      rintro mz af h ⟨i, o2, t2, c2, hi, rfl, rfl, rfl, he⟩
      refine AW.seq ?_
      by_cases hlt : i < kids.length
      · obtain ⟨he1, hle⟩ := he
        obtain ⟨x, hx⟩ := get_lt hlt
        have hx' : (kids.map GFml.av)[((i : Nat) : Int).toNat]? = some (x.st) := GFml.get hx
        have hxm := List.mem_of_getElem? hx
        have hnx := ndFs_mem hxm
        rw [drop_cons hx, vrL] at he1
        rw [drop_cons hx, ndFs] at hle
        have hsx := shsFs_mem hsh.1 hxm
        have hc := ih (ndF x) (by omega) x o2 t2 c2 (Nat.le_refl _) (q7 x hxm) hsx (by omega)
        have hvl := vrF_len x o2 hsx
        repeat' (first | refine AW.re 8 5 ?_ | refine AW.jt ?_ | refine AW.jf ?_ | refine AW.jj (fun hb => ?_) (fun hb => ?_) | refine AW.go ?_ | fail)
        all_goals try (exfalso; simp only [decide_eq_true_eq, decide_eq_false_iff_not, List.length_map] at *; omega)
        repeat' (first | (refine AW.r 10 ?_ <;> refine AL.es 3 ?_ <;> refine AL.d (AOp.index_sl rfl rfl (by omega) hx' (by kernel_rfl) rfl) ?_ <;> refine AL.es 2 ?_ <;> (refine AL.callQ rfl rfl hc rfl ?_ ?_; rotate_left; rintro _ _ ⟨_, _, e, _⟩; cases e; rintro _ _ ⟨b3, c3, e, rfl⟩; injection e with e; subst e) <;> refine AL.es 1 ?_ <;> refine AL.nil ?_) | refine AW.jt ?_ | refine AW.jf ?_ | refine AW.jj (fun hb => ?_) (fun hb => ?_) | refine AW.go ?_ | fail)
        repeat' (first | (refine AW.r 9 ?_ <;> refine AL.es 1 ?_ <;> refine AL.d AOp.ad ?_ <;> refine AL.es 1 ?_ <;> refine AL.nil ?_) | refine AW.jt ?_ | refine AW.jf ?_ | refine AW.jj (fun hb => ?_) (fun hb => ?_) | refine AW.go ?_ | fail)
        refine AW.again_keep (kids.length - (i + 1)) [1, 2, 7] (by omega) ⟨i + 1, vrF x o2, b3, c3, hlt, rfl, rfl, rfl, ?_⟩
        exact ⟨he1, by omega⟩
      · obtain ⟨he1, hle⟩ := he
        rw [List.drop_eq_nil_of_le (by omega), vrL] at he1
        rw [he1]
        repeat' (first | refine AW.re 8 5 ?_ | refine AW.re 11 2 ?_ | refine AW.jt ?_ | refine AW.jf ?_ | refine AW.jj (fun hb => ?_) (fun hb => ?_) | refine AW.go ?_ | fail)
        all_goals try (exfalso; simp only [decide_eq_true_eq, decide_eq_false_iff_not, List.length_map] at *; omega)
        exact AW.retv rfl ⟨_, _, rfl, rfl⟩
theorem ref_vars0 (f : GFml) (ho : f.Ok) (hs : shsF f = true) (hn : 48 * ndF f ≤ 1000000) : Tri Tryd.prog 17 [f.st, .val (.slice none 0 0)] [] (D (strs (vrF f [])) []) :=
  (Tri.of_nil ((ref_vars _ f [] none 0 (Nat.le_refl _) ho hs (by simpa using hn)).mono fun x h ⟨b, c, h1, h2⟩ => ⟨b, c, _, _, h1, h2⟩)).forget
theorem n_Width (f : GFml) (ho : f.Ok) : Tri Tryd.prog 19 [f.st] [] (D (.tup [.int .i64 (bif validF f then ((vrF f []).length : Int) else 0), .int .i64 (bif validF f then 0 else 1)]) []) := by
  have hv := f_Valid f ho
  have hV := fun mb => n_vars _ f [] mb ⟨[], 0⟩ (Nat.le_refl _) ho
  generalize vrF f [] = L at *
  generalize validF f = V at *
  obtain ⟨k, ar, nm, vars, args, kids⟩ := f
  cases V with
  | true =>
    rw [cond_true, cond_true]
    refine Tri.enter 14 Tryd.func19 rfl rfl rfl rfl fun Fr w0 => ?_
    repeat' (first | (refine AW.r 0 ?_ <;> (first | refine AL.d (AOp.box_ro (v := .st [.int .i64 k, .int .i64 ar, .str nm, strs vars, strs args, .sl (kids.map GFml.av)]) rfl rfl) ?_ | refine AL.d (AOp.box_ro rfl rfl) ?_) <;> refine AL.es 2 ?_ <;> refine AL.nil ?_) | (refine AW.r 1 ?_ <;> refine AL.es 1 ?_ <;> refine AL.d (AOp.call rfl rfl hv) ?_ <;> refine AL.es 1 ?_ <;> refine AL.nil ?_) | refine AW.jt ?_ | refine AW.jf ?_ | refine AW.jj (fun hb => ?_) (fun hb => ?_) | refine AW.go ?_ | fail)
    repeat' (first | (refine AW.r 3 ?_ <;> refine AL.makeMap rfl fun bm => ?_ <;> refine AL.es 1 ?_ <;> refine AL.nil ?_) | refine AW.jt ?_ | refine AW.jf ?_ | refine AW.jj (fun hb => ?_) (fun hb => ?_) | refine AW.go ?_ | fail)
    have hw := hV bm
    repeat' (first | (refine AW.r 4 ?_ <;> refine AL.es 2 ?_ <;> (refine AL.callQ rfl rfl hw rfl ?_ ?_; rotate_left; rintro _ _ ⟨e, _⟩; cases e; rintro _ _ ⟨e, g3, rfl⟩; injection e with e; subst e) <;> refine AL.nil ?_) | refine AW.jt ?_ | refine AW.jf ?_ | refine AW.jj (fun hb => ?_) (fun hb => ?_) | refine AW.go ?_ | fail)
    repeat' (first | (refine AW.r 5 ?_ <;> refine AL.es 1 ?_ <;> (first | refine AL.d (AOp.len_map (i := 0) (kd := .string) (e := 4) rfl rfl (by kernel_rfl)) ?_ | refine AL.d AOp.ln ?_) <;> refine AL.es 2 ?_ <;> refine AL.nil ?_) | refine AW.jt ?_ | refine AW.jf ?_ | refine AW.jj (fun hb => ?_) (fun hb => ?_) | refine AW.go ?_ | fail)
    refine AW.ret_drop rfl (List.nil_sublist _) ⟨?_, rfl⟩
    simp [kvW, bmap, ofConst]
  | false =>
    rw [cond_false, cond_false]
    refine Tri.enter 14 Tryd.func19 rfl rfl rfl rfl fun Fr w0 => ?_
    repeat' (first | (refine AW.r 0 ?_ <;> (first | refine AL.d (AOp.box_ro (v := .st [.int .i64 k, .int .i64 ar, .str nm, strs vars, strs args, .sl (kids.map GFml.av)]) rfl rfl) ?_ | refine AL.d (AOp.box_ro rfl rfl) ?_) <;> refine AL.es 2 ?_ <;> refine AL.nil ?_) | (refine AW.r 1 ?_ <;> refine AL.es 1 ?_ <;> refine AL.d (AOp.call rfl rfl hv) ?_ <;> refine AL.es 1 ?_ <;> refine AL.nil ?_) | refine AW.re 2 2 ?_ | refine AW.jt ?_ | refine AW.jf ?_ | refine AW.jj (fun hb => ?_) (fun hb => ?_) | refine AW.go ?_ | fail)
    exact AW.retv rfl ⟨rfl, rfl⟩
theorem n_First (f : GFml) (ho : f.Ok) : Tri Tryd.prog 20 [f.st] [] (D (.bool (validF f && plF f)) []) := by
  have hv := f_Valid f ho
  have hp := n_plain _ f (Nat.le_refl _) ho
  generalize validF f = V at *
  generalize plF f = L at *
  obtain ⟨k, ar, nm, vars, args, kids⟩ := f
  cases V with
  | true =>
    refine Tri.enter 9 Tryd.func20 rfl rfl rfl rfl fun Fr w0 => ?_
    repeat' (first | (refine AW.r 0 ?_ <;> (first | refine AL.d (AOp.box_ro (v := .st [.int .i64 k, .int .i64 ar, .str nm, strs vars, strs args, .sl (kids.map GFml.av)]) rfl rfl) ?_ | refine AL.d (AOp.box_ro rfl rfl) ?_) <;> refine AL.es 1 ?_ <;> refine AL.nil ?_) | (refine AW.r 1 ?_ <;> refine AL.es 1 ?_ <;> (first | refine AL.d (AOp.call rfl rfl hv) ?_ | refine AL.d (AOp.call rfl rfl hp) ?_) <;> refine AL.es 1 ?_ <;> (first | refine AL.es 1 ?_ | (refine AL.gx (fun hb => ?_) (fun hb => ?_) <;> refine AL.es 1 ?_)) <;> (first | (refine AL.gd ?_; (first | refine AL.d (AOp.call rfl rfl hv) ?_ | refine AL.d (AOp.call rfl rfl hp) ?_)) | refine AL.gs ?_ | refine AL.gu ?_) <;> refine AL.es 2 ?_ <;> refine AL.nil ?_) | refine AW.jt ?_ | refine AW.jf ?_ | refine AW.jj (fun hb => ?_) (fun hb => ?_) | refine AW.go ?_ | fail)
    exact AW.retv rfl ⟨rfl, rfl⟩
  | false =>
    refine Tri.enter 9 Tryd.func20 rfl rfl rfl rfl fun Fr w0 => ?_
    repeat' (first | (refine AW.r 0 ?_ <;> (first | refine AL.d (AOp.box_ro (v := .st [.int .i64 k, .int .i64 ar, .str nm, strs vars, strs args, .sl (kids.map GFml.av)]) rfl rfl) ?_ | refine AL.d (AOp.box_ro rfl rfl) ?_) <;> refine AL.es 1 ?_ <;> refine AL.nil ?_) | (refine AW.r 1 ?_ <;> refine AL.es 1 ?_ <;> refine AL.d (AOp.call rfl rfl hv) ?_ <;> refine AL.es 1 ?_ <;> (first | refine AL.es 1 ?_ | (refine AL.gx (fun hb => ?_) (fun hb => ?_) <;> refine AL.es 1 ?_)) <;> (first | (refine AL.gd ?_; refine AL.d (AOp.call rfl rfl hv) ?_) | refine AL.gs ?_ | refine AL.gu ?_) <;> refine AL.es 2 ?_ <;> refine AL.nil ?_) | refine AW.jt ?_ | refine AW.jf ?_ | refine AW.jj (fun hb => ?_) (fun hb => ?_) | refine AW.go ?_ | fail)
    exact AW.retv rfl ⟨rfl, rfl⟩
theorem law_NormRanks (f : GFml) (ho : f.Ok) : Tri Tryd.prog 5 [f.st] [] (D (.bool true) []) := by
  have hF := few_one 1500 (by omega) f ho
  have hAl := alive
  by_cases hfew : wFs 1500 [f] 0 ≤ 1500
  · rw [decide_eq_true hfew] at hF
    have hnd := few_nd hfew (by omega)
    have hV := ref_Valid f ho (by omega)
    have hR := fun h => ref_Rank _ f (Nat.le_refl _) ho (varOk_of f (validF_shs h)) (by omega)
    have hW := fun h => ref_vars0 f ho (validF_shs h) (by omega)
    have hI := ref_First _ f (Nat.le_refl _) ho
    have hr := n_Rank f ho (by omega)
    have hw := n_Width f ho
    have hi := n_First f ho
    have hfp := fun h => fi_pl f (validF_shs h)
    clear hnd hfew
    generalize vrF f [] = L at *
    generalize rkF f = ra at *
    generalize validF f = V at *
    generalize plF f = pl at *
    generalize fiF f = fi at *
    obtain ⟨k, ar, nm, vars, args, kids⟩ := f
    cases V with
    | false =>
      clear hR hW
      rw [cond_false, cond_false] at hr hw
      refine Tri.enter 62 Tryd.func5 rfl rfl rfl rfl fun Fr w0 => ?_
      repeat' (first | (refine AW.r 0 ?_ <;> (first | refine AL.d (AOp.box_ro (v := .st [.int .i64 k, .int .i64 ar, .str nm, strs vars, strs args, .sl (kids.map GFml.av)]) rfl rfl) ?_ | refine AL.d (AOp.box_ro rfl rfl) ?_) <;> refine AL.es 1 ?_ <;> refine AL.nil ?_) | (refine AW.r 1 ?_ <;> refine AL.es 1 ?_ <;> refine AL.d (AOp.lit (e := 25) (sz := 6) (by kernel_rfl) rfl rfl rfl (P_one rfl) (by decide)) ?_ <;> (first | refine AL.d (AOp.call rfl rfl hF) ?_ | refine AL.d (AOp.call rfl rfl hV) ?_ | refine AL.d (AOp.call rfl rfl hr) ?_ | refine AL.d (AOp.call rfl rfl hw) ?_) <;> refine AL.es 1 ?_ <;> refine AL.nil ?_) | refine AW.re 3 3 ?_ | refine AW.re 4 1 ?_ | (refine AW.r 5 ?_ <;> refine AL.es 1 ?_ <;> (first | refine AL.d (AOp.call rfl rfl hF) ?_ | refine AL.d (AOp.call rfl rfl hV) ?_ | refine AL.d (AOp.call rfl rfl hr) ?_ | refine AL.d (AOp.call rfl rfl hw) ?_) <;> refine AL.nil ?_) | (refine AW.r 7 ?_ <;> refine AL.es 1 ?_ <;> (first | refine AL.d (AOp.call rfl rfl hF) ?_ | refine AL.d (AOp.call rfl rfl hV) ?_ | refine AL.d (AOp.call rfl rfl hr) ?_ | refine AL.d (AOp.call rfl rfl hw) ?_) <;> refine AL.es 5 ?_ <;> refine AL.nil ?_) | (refine AW.r 8 ?_ <;> refine AL.es 1 ?_ <;> (first | refine AL.d (AOp.call rfl rfl hF) ?_ | refine AL.d (AOp.call rfl rfl hV) ?_ | refine AL.d (AOp.call rfl rfl hr) ?_ | refine AL.d (AOp.call rfl rfl hw) ?_) <;> refine AL.es 5 ?_ <;> refine AL.nil ?_) | refine AW.jt ?_ | refine AW.jf ?_ | refine AW.jj (fun hb => ?_) (fun hb => ?_) | refine AW.go ?_ | fail)
      repeat' (first | (refine AW.r 9 ?_ <;> refine AL.es 1 ?_ <;> (first | refine AL.d (AOp.call rfl rfl hi) ?_ | refine AL.d (AOp.call rfl rfl hAl) ?_) <;> refine AL.es 1 ?_ <;> (first | refine AL.e ?_ | refine AL.d AOp.be ?_) <;> refine AL.es 1 ?_ <;> (first | refine AL.es 5 ?_ | (refine AL.gx (fun hb => ?_) (fun hb => ?_) <;> refine AL.es 5 ?_)) <;> (first | refine AL.es 5 ?_ | (refine AL.gx (fun hb => ?_) (fun hb => ?_) <;> refine AL.es 5 ?_)) <;> (first | refine AL.es 5 ?_ | (refine AL.gx (fun hb => ?_) (fun hb => ?_) <;> refine AL.es 5 ?_)) <;> (first | refine AL.es 5 ?_ | (refine AL.gx (fun hb => ?_) (fun hb => ?_) <;> refine AL.es 5 ?_)) <;> (first | (refine AL.gd ?_; (first | refine AL.d (AOp.call rfl rfl hi) ?_ | refine AL.d (AOp.call rfl rfl hAl) ?_)) | refine AL.gs ?_ | refine AL.gu ?_ | (refine AL.gx (fun hb => ?_) (fun hb => ?_) <;> first | (refine AL.gd ?_; (first | refine AL.d (AOp.call rfl rfl hi) ?_ | refine AL.d (AOp.call rfl rfl hAl) ?_)) | refine AL.gs ?_)) <;> refine AL.es 2 ?_ <;> refine AL.nil ?_) | refine AW.jt ?_ | refine AW.jf ?_ | refine AW.jj (fun hb => ?_) (fun hb => ?_) | refine AW.go ?_ | fail)
      exact AW.retv rfl ⟨rfl, rfl⟩
    | true =>
      have hR' := hR rfl
      have hW' := hW rfl
      have hfp' : fi = pl := hfp rfl
      subst hfp'
      clear hR hW
      rw [cond_true, cond_true] at hr hw
      refine Tri.enter 62 Tryd.func5 rfl rfl rfl rfl fun Fr w0 => ?_
      repeat' (first | (refine AW.r 0 ?_ <;> (first | refine AL.d (AOp.box_ro (v := .st [.int .i64 k, .int .i64 ar, .str nm, strs vars, strs args, .sl (kids.map GFml.av)]) rfl rfl) ?_ | refine AL.d (AOp.box_ro rfl rfl) ?_) <;> refine AL.es 1 ?_ <;> refine AL.nil ?_) | (refine AW.r 1 ?_ <;> refine AL.es 1 ?_ <;> refine AL.d (AOp.lit (e := 25) (sz := 6) (by kernel_rfl) rfl rfl rfl (P_one rfl) (by decide)) ?_ <;> (first | refine AL.d (AOp.call rfl rfl hF) ?_ | refine AL.d (AOp.call rfl rfl hV) ?_) <;> refine AL.es 1 ?_ <;> refine AL.nil ?_) | refine AW.re 3 3 ?_ | refine AW.re 4 1 ?_ | (refine AW.r 5 ?_ <;> refine AL.es 1 ?_ <;> (first | refine AL.d (AOp.call rfl rfl hF) ?_ | refine AL.d (AOp.call rfl rfl hV) ?_) <;> refine AL.nil ?_) | refine AW.jt ?_ | refine AW.jf ?_ | refine AW.jj (fun hb => ?_) (fun hb => ?_) | refine AW.go ?_ | fail)
      repeat' (first | (refine AW.dq 6 ?_ <;> refine AQ.es 1 ?_ <;> (first | refine AQ.p rfl (AOp.call rfl rfl hR') ?_ | refine AQ.p rfl (AOp.call_nil2 rfl rfl hW') ?_ | refine AQ.p rfl (AOp.call rfl rfl hI) ?_) <;> refine AQ.es 1 ?_ <;> (first | refine AQ.p rfl (AOp.call rfl rfl hR') ?_ | refine AQ.p rfl (AOp.call_nil2 rfl rfl hW') ?_ | refine AQ.p rfl (AOp.call rfl rfl hI) ?_) <;> refine AQ.es 2 ?_ <;> (first | refine AQ.p rfl (AOp.call rfl rfl hR') ?_ | refine AQ.p rfl (AOp.call_nil2 rfl rfl hW') ?_ | refine AQ.p rfl (AOp.call rfl rfl hI) ?_) <;> refine AQ.es 4 ?_ <;> refine AQ.nil ?_) | refine AW.jt ?_ | refine AW.jf ?_ | refine AW.jj (fun hb => ?_) (fun hb => ?_) | refine AW.go ?_ | fail)
      repeat' (first | (refine AW.r 7 ?_ <;> refine AL.es 1 ?_ <;> (first | refine AL.d (AOp.call rfl rfl hr) ?_ | refine AL.d (AOp.call rfl rfl hw) ?_) <;> refine AL.es 5 ?_ <;> refine AL.nil ?_) | (refine AW.r 8 ?_ <;> refine AL.es 1 ?_ <;> (first | refine AL.d (AOp.call rfl rfl hr) ?_ | refine AL.d (AOp.call rfl rfl hw) ?_) <;> refine AL.es 5 ?_ <;> refine AL.nil ?_) | refine AW.jt ?_ | refine AW.jf ?_ | refine AW.jj (fun hb => ?_) (fun hb => ?_) | refine AW.go ?_ | fail)
      repeat' (first | (refine AW.r 9 ?_ <;> refine AL.es 1 ?_ <;> (first | refine AL.d (AOp.call rfl rfl hi) ?_ | refine AL.d (AOp.call rfl rfl hAl) ?_) <;> refine AL.es 1 ?_ <;> (first | refine AL.e ?_ | refine AL.d AOp.be ?_) <;> refine AL.es 1 ?_ <;> (first | refine AL.es 5 ?_ | (refine AL.gx (fun hb => ?_) (fun hb => ?_) <;> refine AL.es 5 ?_)) <;> (first | refine AL.es 5 ?_ | (refine AL.gx (fun hb => ?_) (fun hb => ?_) <;> refine AL.es 5 ?_)) <;> (first | refine AL.es 5 ?_ | (refine AL.gx (fun hb => ?_) (fun hb => ?_) <;> refine AL.es 5 ?_)) <;> (first | refine AL.es 5 ?_ | (refine AL.gx (fun hb => ?_) (fun hb => ?_) <;> refine AL.es 5 ?_)) <;> (first | (refine AL.gd ?_; (first | refine AL.d (AOp.call rfl rfl hi) ?_ | refine AL.d (AOp.call rfl rfl hAl) ?_)) | refine AL.gs ?_ | refine AL.gu ?_ | (refine AL.gx (fun hb => ?_) (fun hb => ?_) <;> first | (refine AL.gd ?_; (first | refine AL.d (AOp.call rfl rfl hi) ?_ | refine AL.d (AOp.call rfl rfl hAl) ?_)) | refine AL.gs ?_)) <;> refine AL.es 2 ?_ <;> refine AL.nil ?_) | refine AW.jt ?_ | refine AW.jf ?_ | refine AW.jj (fun hb => ?_) (fun hb => ?_) | refine AW.go ?_ | fail)
      all_goals first
        | exact AW.retv rfl ⟨rfl, rfl⟩
        | (exfalso; simp at hb; done)
  · rw [decide_eq_false hfew] at hF
    obtain ⟨k, ar, nm, vars, args, kids⟩ := f
    refine Tri.enter 62 Tryd.func5 rfl rfl rfl rfl fun Fr w0 => ?_
    repeat' (first | (refine AW.r 0 ?_ <;> (first | refine AL.d (AOp.box_ro (v := .st [.int .i64 k, .int .i64 ar, .str nm, strs vars, strs args, .sl (kids.map GFml.av)]) rfl rfl) ?_ | refine AL.d (AOp.box_ro rfl rfl) ?_) <;> refine AL.es 1 ?_ <;> refine AL.nil ?_) | (refine AW.r 1 ?_ <;> refine AL.es 1 ?_ <;> refine AL.d (AOp.lit (e := 25) (sz := 6) (by kernel_rfl) rfl rfl rfl (P_one rfl) (by decide)) ?_ <;> (first | refine AL.d (AOp.call rfl rfl hF) ?_ | refine AL.d (AOp.call rfl rfl hAl) ?_) <;> refine AL.es 1 ?_ <;> refine AL.nil ?_) | (refine AW.r 2 ?_ <;> (first | refine AL.d (AOp.call rfl rfl hF) ?_ | refine AL.d (AOp.call rfl rfl hAl) ?_) <;> refine AL.es 1 ?_ <;> refine AL.nil ?_) | refine AW.jt ?_ | refine AW.jf ?_ | refine AW.jj (fun hb => ?_) (fun hb => ?_) | refine AW.go ?_ | fail)
    exact AW.retv rfl ⟨rfl, rfl⟩
end Go.Proofs.YtlpndgodkkndnaaDoor
namespace Go.Proofs.YtlpndgodkkndnaaDoor
open Go.RowKit Go.SX
set_option maxRecDepth 100000
set_option linter.unusedVariables false
section
variable {H : Type} {enc : TypeId × Value → H} {w : World}
theorem rdInt (N : Nat) : Rd enc Tryd.prog w N 3 iav iOk := Rd.int' (by kernel_rfl)
theorem rdStr (N : Nat) : Rd enc Tryd.prog w N 9 AV.str strOk := Rd.str' (by kernel_rfl)
theorem rdStrs (N : Nat) : Rd enc Tryd.prog w N 22 strs (lenOk 16 strOk) := Rd.slice' (by kernel_rfl) (rdStr N)
theorem rdFml : ∀ N : Nat, Rd enc Tryd.prog w N 25 GFml.av GFml.Ok := Rd.all fun N ih =>
  Rd.of_q (RdQ.struct' (by kernel_rfl) (.cons (rdInt N).q (.cons (rdInt N).q (.cons (rdStr N).q (.cons (rdStrs N).q (.cons (rdStrs N).q (.cons (Rd.slice' (T := 23) (n := 104) (by kernel_rfl) ih).q (.nil)))))))) fun v h => by
    obtain ⟨vs, rfl, h⟩ := h
    obtain ⟨_, v1, rfl, ⟨a, rfl, ha⟩, h1⟩ := h.un
    obtain ⟨_, v2, rfl, ⟨b, rfl, hb⟩, h2⟩ := h1.un
    obtain ⟨_, v3, rfl, ⟨c, rfl, hc⟩, h3⟩ := h2.un
    obtain ⟨_, v4, rfl, ⟨d, rfl, hd⟩, h4⟩ := h3.un
    obtain ⟨_, v5, rfl, ⟨e, rfl, he⟩, h5⟩ := h4.un
    obtain ⟨_, v6, rfl, ⟨f, rfl, hf⟩, h6⟩ := h5.un
    obtain rfl := h6.un0
    exact ⟨⟨a, b, c, d, e, f⟩, by rw [GFml.av_eq]; rfl, .mk ⟨ha, hb, hc, hd, he⟩ hf.1 hf.2⟩
end
end Go.Proofs.YtlpndgodkkndnaaDoor
