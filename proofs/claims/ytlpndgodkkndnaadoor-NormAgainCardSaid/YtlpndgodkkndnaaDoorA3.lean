/- Contracts of the functions, part 3. -/
import Derived.Test.YtlpndgodkkndnaaDoorA2
import Derived.Test.YtlpndgodkkndnaaDoorA2
import Derived.Test.YtlpndgodkkndnaaDoorS2
import Derived.Test.YtlpndgodkkndnaaDoorProg
namespace Go.Proofs.YtlpndgodkkndnaaDoor
open Go.RowKit Go.SX
set_option maxRecDepth 100000
set_option maxHeartbeats 4000000
set_option linter.unusedVariables false
set_option linter.unusedSimpArgs false
theorem few_one (most : Int) (hm : 0 ≤ most ∧ most ≤ 1000000) (f : GFml) (ho : f.Ok) : Tri Tryd.prog 8 [.int .i64 most, .sl [f.st]] [] (D (.bool (decide (wFs most [f] 0 ≤ most))) []) := by
  have h := law_Few most hm [f] (by simp) (by intro x hx; rw [List.mem_singleton.1 hx]; exact ho)
  rw [List.map_cons, List.map_nil, GFml.av_eq] at h
  exact h
theorem law_NormNnf (f : GFml) (ho : f.Ok) : Tri Tryd.prog 3 [f.st] [] (D (.bool true) []) := by
  have hF := few_one 5000 (by omega) f ho
  have hAl := alive
  by_cases hfew : wFs 5000 [f] 0 ≤ 5000
  · rw [decide_eq_true hfew] at hF
    have hnd := few_nd hfew (by omega)
    have hN := n_Nnf f ho
    have hV := ref_Valid f ho (by omega)
    have hwk := nn_ok f false ho
    have hwn := nn_nd f false
    have hW := fun h => ref_Nnf _ f false (Nat.le_refl _) ho (validF_shs h)
    have hVW := ref_Valid (nnF f false) hwk (by omega)
    have hS0 := ref_Same _ noF noF (Nat.le_refl _) noF_ok noF_ok
    have hSW := ref_Same _ (nnF f false) (nnF f false) (Nat.le_refl _) hwk hwk
    rw [eqF_refl] at hS0 hSW
    unfold nnfP fitF at hN
    clear hwk hwn hnd hfew
    generalize nnF f false = g at *
    generalize validF f = V at *
    generalize validF g = W at *
    obtain ⟨k, ar, nm, vars, args, kids⟩ := f
    cases V with
    | false =>
      clear hW
      refine Tri.enter 54 Tryd.func3 rfl rfl rfl rfl fun Fr w0 => ?_
      repeat' (first | (refine AW.r 0 ?_ <;> (first | refine AL.d (AOp.box_ro (v := .st [.int .i64 k, .int .i64 ar, .str nm, strs vars, strs args, .sl (kids.map GFml.av)]) rfl rfl) ?_ | refine AL.d (AOp.box_ro rfl rfl) ?_) <;> refine AL.es 1 ?_ <;> refine AL.nil ?_) | (refine AW.r 1 ?_ <;> refine AL.es 1 ?_ <;> refine AL.d (AOp.lit (e := 25) (sz := 6) (by kernel_rfl) rfl rfl rfl (P_one rfl) (by decide)) ?_ <;> (first | refine AL.d (AOp.call rfl rfl hF) ?_ | refine AL.d (AOp.call rfl rfl hN) ?_ | refine AL.d (AOp.call rfl rfl hV) ?_ | refine AL.d (AOp.call rfl rfl hS0) ?_ | refine AL.d (AOp.call rfl rfl hAl) ?_) <;> refine AL.es 1 ?_ <;> refine AL.nil ?_) | (refine AW.r 3 ?_ <;> refine AL.es 1 ?_ <;> (first | refine AL.d (AOp.call rfl rfl hF) ?_ | refine AL.d (AOp.call rfl rfl hN) ?_ | refine AL.d (AOp.call rfl rfl hV) ?_ | refine AL.d (AOp.call rfl rfl hS0) ?_ | refine AL.d (AOp.call rfl rfl hAl) ?_) <;> refine AL.es 3 ?_ <;> refine AL.alloc_store (by kernel_rfl) rfl rfl rfl rfl ?_ <;> refine AL.es 1 ?_ <;> refine AL.nil ?_) | (refine AW.r 4 ?_ <;> refine AL.es 1 ?_ <;> (first | refine AL.d (AOp.call rfl rfl hF) ?_ | refine AL.d (AOp.call rfl rfl hN) ?_ | refine AL.d (AOp.call rfl rfl hV) ?_ | refine AL.d (AOp.call rfl rfl hS0) ?_ | refine AL.d (AOp.call rfl rfl hAl) ?_) <;> refine AL.es 1 ?_ <;> refine AL.nil ?_) | (refine AW.r 5 ?_ <;> refine AL.es 3 ?_ <;> (first | refine AL.es 1 ?_ | (refine AL.gx (fun hb => ?_) (fun hb => ?_) <;> refine AL.es 1 ?_)) <;> (first | (refine AL.gd ?_; refine AL.d (AOp.build (pl := [(0, 1), (1, 1), (2, 1), (3, 1), (4, 1), (5, 1)]) (z := .st [.int .i64 0, .int .i64 0, .str ⟨#[]⟩, .sl [], .sl [], .sl []]) (by kernel_rfl) rfl rfl rfl) ?_) | refine AL.gs ?_ | refine AL.gu ?_) <;> (first | (refine AL.gd ?_; (first | refine AL.d (AOp.call rfl rfl hF) ?_ | refine AL.d (AOp.call rfl rfl hN) ?_ | refine AL.d (AOp.call rfl rfl hV) ?_ | refine AL.d (AOp.call rfl rfl hS0) ?_ | refine AL.d (AOp.call rfl rfl hAl) ?_)) | refine AL.gs ?_ | refine AL.gu ?_) <;> refine AL.es 2 ?_ <;> (first | (refine AL.gd ?_; (first | refine AL.d (AOp.call rfl rfl hF) ?_ | refine AL.d (AOp.call rfl rfl hN) ?_ | refine AL.d (AOp.call rfl rfl hV) ?_ | refine AL.d (AOp.call rfl rfl hS0) ?_ | refine AL.d (AOp.call rfl rfl hAl) ?_)) | refine AL.gs ?_ | refine AL.gu ?_ | (refine AL.gx (fun hb => ?_) (fun hb => ?_) <;> first | (refine AL.gd ?_; (first | refine AL.d (AOp.call rfl rfl hF) ?_ | refine AL.d (AOp.call rfl rfl hN) ?_ | refine AL.d (AOp.call rfl rfl hV) ?_ | refine AL.d (AOp.call rfl rfl hS0) ?_ | refine AL.d (AOp.call rfl rfl hAl) ?_)) | refine AL.gs ?_)) <;> refine AL.es 2 ?_ <;> refine AL.nil ?_) | refine AW.jt ?_ | refine AW.jf ?_ | refine AW.jj (fun hb => ?_) (fun hb => ?_) | refine AW.go ?_ | fail)
      exact AW.retv rfl ⟨rfl, rfl⟩
    | true =>
      have hWn := hW rfl
      clear hW
      cases W with
      | false =>
        refine Tri.enter 54 Tryd.func3 rfl rfl rfl rfl fun Fr w0 => ?_
        repeat' (first | (refine AW.r 0 ?_ <;> (first | refine AL.d (AOp.box_ro (v := .st [.int .i64 k, .int .i64 ar, .str nm, strs vars, strs args, .sl (kids.map GFml.av)]) rfl rfl) ?_ | refine AL.d (AOp.box_ro rfl rfl) ?_) <;> refine AL.es 1 ?_ <;> refine AL.nil ?_) | (refine AW.r 1 ?_ <;> refine AL.es 1 ?_ <;> refine AL.d (AOp.lit (e := 25) (sz := 6) (by kernel_rfl) rfl rfl rfl (P_one rfl) (by decide)) ?_ <;> (first | refine AL.d (AOp.call rfl rfl hF) ?_ | refine AL.d (AOp.call rfl rfl hN) ?_ | refine AL.d (AOp.call rfl rfl hV) ?_ | refine AL.d (AOp.call rfl rfl hWn) ?_ | refine AL.d (AOp.call rfl rfl hVW) ?_ | refine AL.d (AOp.call rfl rfl hS0) ?_ | refine AL.d (AOp.call rfl rfl hAl) ?_) <;> refine AL.es 1 ?_ <;> refine AL.nil ?_) | (refine AW.r 3 ?_ <;> refine AL.es 1 ?_ <;> (first | refine AL.d (AOp.call rfl rfl hF) ?_ | refine AL.d (AOp.call rfl rfl hN) ?_ | refine AL.d (AOp.call rfl rfl hV) ?_ | refine AL.d (AOp.call rfl rfl hWn) ?_ | refine AL.d (AOp.call rfl rfl hVW) ?_ | refine AL.d (AOp.call rfl rfl hS0) ?_ | refine AL.d (AOp.call rfl rfl hAl) ?_) <;> refine AL.es 3 ?_ <;> refine AL.alloc_store (by kernel_rfl) rfl rfl rfl rfl ?_ <;> refine AL.es 1 ?_ <;> refine AL.nil ?_) | (refine AW.r 4 ?_ <;> refine AL.es 1 ?_ <;> (first | refine AL.d (AOp.call rfl rfl hF) ?_ | refine AL.d (AOp.call rfl rfl hN) ?_ | refine AL.d (AOp.call rfl rfl hV) ?_ | refine AL.d (AOp.call rfl rfl hWn) ?_ | refine AL.d (AOp.call rfl rfl hVW) ?_ | refine AL.d (AOp.call rfl rfl hS0) ?_ | refine AL.d (AOp.call rfl rfl hAl) ?_) <;> refine AL.es 1 ?_ <;> refine AL.nil ?_) | (refine AW.r 6 ?_ <;> refine AL.es 1 ?_ <;> (first | refine AL.d (AOp.call rfl rfl hF) ?_ | refine AL.d (AOp.call rfl rfl hN) ?_ | refine AL.d (AOp.call rfl rfl hV) ?_ | refine AL.d (AOp.call rfl rfl hWn) ?_ | refine AL.d (AOp.call rfl rfl hVW) ?_ | refine AL.d (AOp.call rfl rfl hS0) ?_ | refine AL.d (AOp.call rfl rfl hAl) ?_) <;> refine AL.alloc_store (by kernel_rfl) rfl rfl rfl rfl ?_ <;> refine AL.nil ?_) | (refine AW.r 7 ?_ <;> refine AL.es 1 ?_ <;> (first | refine AL.d (AOp.call rfl rfl hF) ?_ | refine AL.d (AOp.call rfl rfl hN) ?_ | refine AL.d (AOp.call rfl rfl hV) ?_ | refine AL.d (AOp.call rfl rfl hWn) ?_ | refine AL.d (AOp.call rfl rfl hVW) ?_ | refine AL.d (AOp.call rfl rfl hS0) ?_ | refine AL.d (AOp.call rfl rfl hAl) ?_) <;> refine AL.es 1 ?_ <;> refine AL.nil ?_) | (refine AW.r 8 ?_ <;> refine AL.es 3 ?_ <;> (first | refine AL.es 1 ?_ | (refine AL.gx (fun hb => ?_) (fun hb => ?_) <;> refine AL.es 1 ?_)) <;> (first | (refine AL.gd ?_; refine AL.d (AOp.build (pl := [(0, 1), (1, 1), (2, 1), (3, 1), (4, 1), (5, 1)]) (z := .st [.int .i64 0, .int .i64 0, .str ⟨#[]⟩, .sl [], .sl [], .sl []]) (by kernel_rfl) rfl rfl rfl) ?_) | refine AL.gs ?_ | refine AL.gu ?_) <;> (first | (refine AL.gd ?_; (first | refine AL.d (AOp.call rfl rfl hF) ?_ | refine AL.d (AOp.call rfl rfl hN) ?_ | refine AL.d (AOp.call rfl rfl hV) ?_ | refine AL.d (AOp.call rfl rfl hWn) ?_ | refine AL.d (AOp.call rfl rfl hVW) ?_ | refine AL.d (AOp.call rfl rfl hS0) ?_ | refine AL.d (AOp.call rfl rfl hAl) ?_)) | refine AL.gs ?_ | refine AL.gu ?_) <;> refine AL.es 2 ?_ <;> (first | (refine AL.gd ?_; (first | refine AL.d (AOp.call rfl rfl hF) ?_ | refine AL.d (AOp.call rfl rfl hN) ?_ | refine AL.d (AOp.call rfl rfl hV) ?_ | refine AL.d (AOp.call rfl rfl hWn) ?_ | refine AL.d (AOp.call rfl rfl hVW) ?_ | refine AL.d (AOp.call rfl rfl hS0) ?_ | refine AL.d (AOp.call rfl rfl hAl) ?_)) | refine AL.gs ?_ | refine AL.gu ?_ | (refine AL.gx (fun hb => ?_) (fun hb => ?_) <;> first | (refine AL.gd ?_; (first | refine AL.d (AOp.call rfl rfl hF) ?_ | refine AL.d (AOp.call rfl rfl hN) ?_ | refine AL.d (AOp.call rfl rfl hV) ?_ | refine AL.d (AOp.call rfl rfl hWn) ?_ | refine AL.d (AOp.call rfl rfl hVW) ?_ | refine AL.d (AOp.call rfl rfl hS0) ?_ | refine AL.d (AOp.call rfl rfl hAl) ?_)) | refine AL.gs ?_)) <;> refine AL.es 2 ?_ <;> refine AL.nil ?_) | refine AW.jt ?_ | refine AW.jf ?_ | refine AW.jj (fun hb => ?_) (fun hb => ?_) | refine AW.go ?_ | fail)
        exact AW.retv rfl ⟨rfl, rfl⟩
      | true =>
        refine Tri.enter 54 Tryd.func3 rfl rfl rfl rfl fun Fr w0 => ?_
        repeat' (first | (refine AW.r 0 ?_ <;> (first | refine AL.d (AOp.box_ro (v := .st [.int .i64 k, .int .i64 ar, .str nm, strs vars, strs args, .sl (kids.map GFml.av)]) rfl rfl) ?_ | refine AL.d (AOp.box_ro rfl rfl) ?_) <;> refine AL.es 1 ?_ <;> refine AL.nil ?_) | (refine AW.r 1 ?_ <;> refine AL.es 1 ?_ <;> refine AL.d (AOp.lit (e := 25) (sz := 6) (by kernel_rfl) rfl rfl rfl (P_one rfl) (by decide)) ?_ <;> (first | refine AL.d (AOp.call rfl rfl hF) ?_ | refine AL.d (AOp.call rfl rfl hN) ?_ | refine AL.d (AOp.call rfl rfl hV) ?_ | refine AL.d (AOp.call rfl rfl hWn) ?_ | refine AL.d (AOp.call rfl rfl hVW) ?_ | refine AL.d (AOp.call rfl rfl hSW) ?_ | refine AL.d (AOp.call rfl rfl hAl) ?_) <;> refine AL.es 1 ?_ <;> refine AL.nil ?_) | (refine AW.r 3 ?_ <;> refine AL.es 1 ?_ <;> (first | refine AL.d (AOp.call rfl rfl hF) ?_ | refine AL.d (AOp.call rfl rfl hN) ?_ | refine AL.d (AOp.call rfl rfl hV) ?_ | refine AL.d (AOp.call rfl rfl hWn) ?_ | refine AL.d (AOp.call rfl rfl hVW) ?_ | refine AL.d (AOp.call rfl rfl hSW) ?_ | refine AL.d (AOp.call rfl rfl hAl) ?_) <;> refine AL.es 3 ?_ <;> refine AL.alloc_store (by kernel_rfl) rfl rfl rfl rfl ?_ <;> refine AL.es 1 ?_ <;> refine AL.nil ?_) | (refine AW.r 4 ?_ <;> refine AL.es 1 ?_ <;> (first | refine AL.d (AOp.call rfl rfl hF) ?_ | refine AL.d (AOp.call rfl rfl hN) ?_ | refine AL.d (AOp.call rfl rfl hV) ?_ | refine AL.d (AOp.call rfl rfl hWn) ?_ | refine AL.d (AOp.call rfl rfl hVW) ?_ | refine AL.d (AOp.call rfl rfl hSW) ?_ | refine AL.d (AOp.call rfl rfl hAl) ?_) <;> refine AL.es 1 ?_ <;> refine AL.nil ?_) | (refine AW.r 6 ?_ <;> refine AL.es 1 ?_ <;> (first | refine AL.d (AOp.call rfl rfl hF) ?_ | refine AL.d (AOp.call rfl rfl hN) ?_ | refine AL.d (AOp.call rfl rfl hV) ?_ | refine AL.d (AOp.call rfl rfl hWn) ?_ | refine AL.d (AOp.call rfl rfl hVW) ?_ | refine AL.d (AOp.call rfl rfl hSW) ?_ | refine AL.d (AOp.call rfl rfl hAl) ?_) <;> refine AL.alloc_store (by kernel_rfl) rfl rfl rfl rfl ?_ <;> refine AL.nil ?_) | (refine AW.r 7 ?_ <;> refine AL.es 1 ?_ <;> (first | refine AL.d (AOp.call rfl rfl hF) ?_ | refine AL.d (AOp.call rfl rfl hN) ?_ | refine AL.d (AOp.call rfl rfl hV) ?_ | refine AL.d (AOp.call rfl rfl hWn) ?_ | refine AL.d (AOp.call rfl rfl hVW) ?_ | refine AL.d (AOp.call rfl rfl hSW) ?_ | refine AL.d (AOp.call rfl rfl hAl) ?_) <;> refine AL.es 1 ?_ <;> refine AL.nil ?_) | (refine AW.r 9 ?_ <;> refine AL.es 3 ?_ <;> (first | refine AL.es 2 ?_ | (refine AL.gx (fun hb => ?_) (fun hb => ?_) <;> refine AL.es 2 ?_)) <;> (first | (refine AL.gd ?_; (first | refine AL.d (AOp.call rfl rfl hF) ?_ | refine AL.d (AOp.call rfl rfl hN) ?_ | refine AL.d (AOp.call rfl rfl hV) ?_ | refine AL.d (AOp.call rfl rfl hWn) ?_ | refine AL.d (AOp.call rfl rfl hVW) ?_ | refine AL.d (AOp.call rfl rfl hSW) ?_ | refine AL.d (AOp.call rfl rfl hAl) ?_)) | refine AL.gs ?_ | refine AL.gu ?_) <;> refine AL.es 2 ?_ <;> (first | (refine AL.gd ?_; (first | refine AL.d (AOp.call rfl rfl hF) ?_ | refine AL.d (AOp.call rfl rfl hN) ?_ | refine AL.d (AOp.call rfl rfl hV) ?_ | refine AL.d (AOp.call rfl rfl hWn) ?_ | refine AL.d (AOp.call rfl rfl hVW) ?_ | refine AL.d (AOp.call rfl rfl hSW) ?_ | refine AL.d (AOp.call rfl rfl hAl) ?_)) | refine AL.gs ?_ | refine AL.gu ?_ | (refine AL.gx (fun hb => ?_) (fun hb => ?_) <;> first | (refine AL.gd ?_; (first | refine AL.d (AOp.call rfl rfl hF) ?_ | refine AL.d (AOp.call rfl rfl hN) ?_ | refine AL.d (AOp.call rfl rfl hV) ?_ | refine AL.d (AOp.call rfl rfl hWn) ?_ | refine AL.d (AOp.call rfl rfl hVW) ?_ | refine AL.d (AOp.call rfl rfl hSW) ?_ | refine AL.d (AOp.call rfl rfl hAl) ?_)) | refine AL.gs ?_)) <;> refine AL.es 2 ?_ <;> refine AL.nil ?_) | refine AW.jt ?_ | refine AW.jf ?_ | refine AW.jj (fun hb => ?_) (fun hb => ?_) | refine AW.go ?_ | fail)
        exact AW.retv rfl ⟨rfl, rfl⟩
  · rw [decide_eq_false hfew] at hF
    obtain ⟨k, ar, nm, vars, args, kids⟩ := f
    refine Tri.enter 54 Tryd.func3 rfl rfl rfl rfl fun Fr w0 => ?_
    repeat' (first | (refine AW.r 0 ?_ <;> (first | refine AL.d (AOp.box_ro (v := .st [.int .i64 k, .int .i64 ar, .str nm, strs vars, strs args, .sl (kids.map GFml.av)]) rfl rfl) ?_ | refine AL.d (AOp.box_ro rfl rfl) ?_) <;> refine AL.es 1 ?_ <;> refine AL.nil ?_) | (refine AW.r 1 ?_ <;> refine AL.es 1 ?_ <;> refine AL.d (AOp.lit (e := 25) (sz := 6) (by kernel_rfl) rfl rfl rfl (P_one rfl) (by decide)) ?_ <;> (first | refine AL.d (AOp.call rfl rfl hF) ?_ | refine AL.d (AOp.call rfl rfl hAl) ?_) <;> refine AL.es 1 ?_ <;> refine AL.nil ?_) | (refine AW.r 2 ?_ <;> (first | refine AL.d (AOp.call rfl rfl hF) ?_ | refine AL.d (AOp.call rfl rfl hAl) ?_) <;> refine AL.es 1 ?_ <;> refine AL.nil ?_) | refine AW.jt ?_ | refine AW.jf ?_ | refine AW.jj (fun hb => ?_) (fun hb => ?_) | refine AW.go ?_ | fail)
    exact AW.retv rfl ⟨rfl, rfl⟩
end Go.Proofs.YtlpndgodkkndnaaDoor
namespace Go.Proofs.YtlpndgodkkndnaaDoor
open Go.RowKit Go.SX
set_option maxRecDepth 100000
set_option maxHeartbeats 4000000
set_option linter.unusedVariables false
set_option linter.unusedSimpArgs false
theorem rules_v1 (k : Int) : (rulesP k).v1 ≤ 24 := by
  unfold rulesP
  repeat' split
  all_goals decide
theorem shaped_vars {f : GFml} (h : shapedP f = true) : f.Vars.length ≤ 24 := by
  simp only [shapedP, shp3, Bool.and_eq_true, decide_eq_true_eq] at h
  have h1 := h.2.1.2.1.2
  have h2 := rules_v1 f.Kind
  omega
theorem rules_a1 (k : Int) : (rulesP k).a1 ≤ 24 := by
  unfold rulesP
  repeat' split
  all_goals decide
theorem shaped_args {f : GFml} (h : shapedP f = true) : f.Args.length ≤ 24 := by
  simp only [shapedP, shp3, Bool.and_eq_true, decide_eq_true_eq] at h
  have h1 := h.2.1.1.1.2
  have h2 := rules_a1 f.Kind
  omega
theorem varOk_of (f : GFml) : shsF f = true → VarOk f := by
  generalize hN : ndF f = N
  induction N using Nat.strongRecOn generalizing f with
  | _ N ih =>
    intro h
    have hnd := ndF_eq f
    rw [shsF_eq, Bool.and_eq_true] at h
    exact .mk (by have := shaped_vars h.2; omega) fun x hx => ih (ndF x) (by have := ndFs_mem hx; omega) x rfl (shsFs_mem h.1 hx)
theorem n_Rank (f : GFml) (ho : f.Ok) (hn : ndF f ≤ 1000000) : Tri Tryd.prog 15 [f.st] [] (D (.tup [.int .i64 (bif validF f then rkF f else 0), .int .i64 (bif validF f then 0 else 1)]) []) := by
  have hv := f_Valid f ho
  have hR := fun h => n_rank _ f (Nat.le_refl _) ho (varOk_of f (validF_shs h)) hn
  generalize validF f = V at *
  obtain ⟨k, ar, nm, vars, args, kids⟩ := f
  cases V with
  | true =>
    have hR' := hR rfl
    rw [cond_true, cond_true]
    refine Tri.enter 9 Tryd.func15 rfl rfl rfl rfl fun Fr w0 => ?_
    repeat' (first | (refine AW.r 0 ?_ <;> (first | refine AL.d (AOp.box_ro (v := .st [.int .i64 k, .int .i64 ar, .str nm, strs vars, strs args, .sl (kids.map GFml.av)]) rfl rfl) ?_ | refine AL.d (AOp.box_ro rfl rfl) ?_) <;> refine AL.es 2 ?_ <;> refine AL.nil ?_) | (refine AW.r 1 ?_ <;> refine AL.es 1 ?_ <;> (first | refine AL.d (AOp.call rfl rfl hv) ?_ | refine AL.d (AOp.call rfl rfl hR') ?_) <;> refine AL.es 1 ?_ <;> refine AL.nil ?_) | (refine AW.r 3 ?_ <;> refine AL.es 1 ?_ <;> (first | refine AL.d (AOp.call rfl rfl hv) ?_ | refine AL.d (AOp.call rfl rfl hR') ?_) <;> refine AL.es 2 ?_ <;> refine AL.nil ?_) | refine AW.jt ?_ | refine AW.jf ?_ | refine AW.jj (fun hb => ?_) (fun hb => ?_) | refine AW.go ?_ | fail)
    exact AW.retv rfl ⟨rfl, rfl⟩
  | false =>
    rw [cond_false, cond_false]
    refine Tri.enter 9 Tryd.func15 rfl rfl rfl rfl fun Fr w0 => ?_
    repeat' (first | (refine AW.r 0 ?_ <;> (first | refine AL.d (AOp.box_ro (v := .st [.int .i64 k, .int .i64 ar, .str nm, strs vars, strs args, .sl (kids.map GFml.av)]) rfl rfl) ?_ | refine AL.d (AOp.box_ro rfl rfl) ?_) <;> refine AL.es 2 ?_ <;> refine AL.nil ?_) | (refine AW.r 1 ?_ <;> refine AL.es 1 ?_ <;> refine AL.d (AOp.call rfl rfl hv) ?_ <;> refine AL.es 1 ?_ <;> refine AL.nil ?_) | refine AW.re 2 2 ?_ | refine AW.jt ?_ | refine AW.jf ?_ | refine AW.jj (fun hb => ?_) (fun hb => ?_) | refine AW.go ?_ | fail)
    exact AW.retv rfl ⟨rfl, rfl⟩
theorem law_NormAgain (f : GFml) (ho : f.Ok) : Tri Tryd.prog 4 [f.st] [] (D (.bool true) []) := by
  have hF := few_one 1500 (by omega) f ho
  have hAl := alive
  by_cases hfew : wFs 1500 [f] 0 ≤ 1500
  · rw [decide_eq_true hfew] at hF
    have hnd := few_nd hfew (by omega)
    have hN := n_Nnf f ho
    have hV := f_Valid f ho
    have hwk := nn_ok f false ho
    have hwn := nn_nd f false
    have hRa := n_Rank f ho (by omega)
    have hRb := n_Rank (nnF f false) hwk (by omega)
    have hM := n_Nnf (nnF f false) hwk
    have hS := ref_Same _ (nnF f false) (nnF f false) (Nat.le_refl _) hwk hwk
    have hrk := fun h => nn_rk f false (validF_shs h)
    rw [eqF_refl] at hS
    unfold nnfP fitF at hN hM
    rw [nn_nn] at hM
    clear hwk hwn hnd hfew
    generalize nnF f false = g at *
    generalize validF f = V at *
    generalize validF g = W at *
    generalize rkF f = ra at *
    generalize rkF g = rb at *
    obtain ⟨k, ar, nm, vars, args, kids⟩ := f
    cases V with
    | false =>
      refine Tri.enter 70 Tryd.func4 rfl rfl rfl rfl fun Fr w0 => ?_
      repeat' (first | (refine AW.r 0 ?_ <;> (first | refine AL.d (AOp.box_ro (v := .st [.int .i64 k, .int .i64 ar, .str nm, strs vars, strs args, .sl (kids.map GFml.av)]) rfl rfl) ?_ | refine AL.d (AOp.box_ro rfl rfl) ?_) <;> refine AL.es 1 ?_ <;> refine AL.nil ?_) | (refine AW.r 1 ?_ <;> refine AL.es 1 ?_ <;> refine AL.d (AOp.lit (e := 25) (sz := 6) (by kernel_rfl) rfl rfl rfl (P_one rfl) (by decide)) ?_ <;> (first | refine AL.d (AOp.call rfl rfl hF) ?_ | refine AL.d (AOp.call rfl rfl hN) ?_ | refine AL.d (AOp.call rfl rfl hV) ?_ | refine AL.d (AOp.call rfl rfl hAl) ?_) <;> refine AL.es 1 ?_ <;> refine AL.nil ?_) | (refine AW.r 3 ?_ <;> refine AL.es 1 ?_ <;> (first | refine AL.d (AOp.call rfl rfl hF) ?_ | refine AL.d (AOp.call rfl rfl hN) ?_ | refine AL.d (AOp.call rfl rfl hV) ?_ | refine AL.d (AOp.call rfl rfl hAl) ?_) <;> refine AL.es 3 ?_ <;> refine AL.alloc_store (by kernel_rfl) rfl rfl rfl rfl ?_ <;> refine AL.es 1 ?_ <;> refine AL.nil ?_) | refine AW.re 4 2 ?_ | (refine AW.r 5 ?_ <;> refine AL.es 3 ?_ <;> (first | refine AL.d (AOp.call rfl rfl hF) ?_ | refine AL.d (AOp.call rfl rfl hN) ?_ | refine AL.d (AOp.call rfl rfl hV) ?_ | refine AL.d (AOp.call rfl rfl hAl) ?_) <;> refine AL.es 1 ?_ <;> (first | refine AL.e ?_ | refine AL.d AOp.be ?_) <;> refine AL.es 1 ?_ <;> (first | (refine AL.gd ?_; (first | refine AL.d (AOp.call rfl rfl hF) ?_ | refine AL.d (AOp.call rfl rfl hN) ?_ | refine AL.d (AOp.call rfl rfl hV) ?_ | refine AL.d (AOp.call rfl rfl hAl) ?_)) | refine AL.gs ?_ | refine AL.gu ?_ | (refine AL.gx (fun hb => ?_) (fun hb => ?_) <;> first | (refine AL.gd ?_; (first | refine AL.d (AOp.call rfl rfl hF) ?_ | refine AL.d (AOp.call rfl rfl hN) ?_ | refine AL.d (AOp.call rfl rfl hV) ?_ | refine AL.d (AOp.call rfl rfl hAl) ?_)) | refine AL.gs ?_)) <;> refine AL.es 2 ?_ <;> refine AL.nil ?_) | refine AW.jt ?_ | refine AW.jf ?_ | refine AW.jj (fun hb => ?_) (fun hb => ?_) | refine AW.go ?_ | fail)
      exact AW.retv rfl ⟨rfl, rfl⟩
    | true =>
      cases W with
      | false =>
        refine Tri.enter 70 Tryd.func4 rfl rfl rfl rfl fun Fr w0 => ?_
        repeat' (first | (refine AW.r 0 ?_ <;> (first | refine AL.d (AOp.box_ro (v := .st [.int .i64 k, .int .i64 ar, .str nm, strs vars, strs args, .sl (kids.map GFml.av)]) rfl rfl) ?_ | refine AL.d (AOp.box_ro rfl rfl) ?_) <;> refine AL.es 1 ?_ <;> refine AL.nil ?_) | (refine AW.r 1 ?_ <;> refine AL.es 1 ?_ <;> refine AL.d (AOp.lit (e := 25) (sz := 6) (by kernel_rfl) rfl rfl rfl (P_one rfl) (by decide)) ?_ <;> (first | refine AL.d (AOp.call rfl rfl hF) ?_ | refine AL.d (AOp.call rfl rfl hN) ?_ | refine AL.d (AOp.call rfl rfl hV) ?_ | refine AL.d (AOp.call rfl rfl hAl) ?_) <;> refine AL.es 1 ?_ <;> refine AL.nil ?_) | (refine AW.r 3 ?_ <;> refine AL.es 1 ?_ <;> (first | refine AL.d (AOp.call rfl rfl hF) ?_ | refine AL.d (AOp.call rfl rfl hN) ?_ | refine AL.d (AOp.call rfl rfl hV) ?_ | refine AL.d (AOp.call rfl rfl hAl) ?_) <;> refine AL.es 3 ?_ <;> refine AL.alloc_store (by kernel_rfl) rfl rfl rfl rfl ?_ <;> refine AL.es 1 ?_ <;> refine AL.nil ?_) | refine AW.re 4 2 ?_ | (refine AW.r 5 ?_ <;> refine AL.es 3 ?_ <;> (first | refine AL.d (AOp.call rfl rfl hF) ?_ | refine AL.d (AOp.call rfl rfl hN) ?_ | refine AL.d (AOp.call rfl rfl hV) ?_ | refine AL.d (AOp.call rfl rfl hAl) ?_) <;> refine AL.es 1 ?_ <;> (first | refine AL.e ?_ | refine AL.d AOp.be ?_) <;> refine AL.es 1 ?_ <;> (first | (refine AL.gd ?_; (first | refine AL.d (AOp.call rfl rfl hF) ?_ | refine AL.d (AOp.call rfl rfl hN) ?_ | refine AL.d (AOp.call rfl rfl hV) ?_ | refine AL.d (AOp.call rfl rfl hAl) ?_)) | refine AL.gs ?_ | refine AL.gu ?_ | (refine AL.gx (fun hb => ?_) (fun hb => ?_) <;> first | (refine AL.gd ?_; (first | refine AL.d (AOp.call rfl rfl hF) ?_ | refine AL.d (AOp.call rfl rfl hN) ?_ | refine AL.d (AOp.call rfl rfl hV) ?_ | refine AL.d (AOp.call rfl rfl hAl) ?_)) | refine AL.gs ?_)) <;> refine AL.es 2 ?_ <;> refine AL.nil ?_) | refine AW.jt ?_ | refine AW.jf ?_ | refine AW.jj (fun hb => ?_) (fun hb => ?_) | refine AW.go ?_ | fail)
        exact AW.retv rfl ⟨rfl, rfl⟩
      | true =>
        have hrk' : rb = ra := hrk rfl
        subst hrk'
        refine Tri.enter 70 Tryd.func4 rfl rfl rfl rfl fun Fr w0 => ?_
        repeat' (first | (refine AW.r 0 ?_ <;> (first | refine AL.d (AOp.box_ro (v := .st [.int .i64 k, .int .i64 ar, .str nm, strs vars, strs args, .sl (kids.map GFml.av)]) rfl rfl) ?_ | refine AL.d (AOp.box_ro rfl rfl) ?_) <;> refine AL.es 1 ?_ <;> refine AL.nil ?_) | (refine AW.r 1 ?_ <;> refine AL.es 1 ?_ <;> refine AL.d (AOp.lit (e := 25) (sz := 6) (by kernel_rfl) rfl rfl rfl (P_one rfl) (by decide)) ?_ <;> (first | refine AL.d (AOp.call rfl rfl hF) ?_ | refine AL.d (AOp.call rfl rfl hN) ?_ | refine AL.d (AOp.call rfl rfl hM) ?_ | refine AL.d (AOp.call rfl rfl hRa) ?_ | refine AL.d (AOp.call rfl rfl hRb) ?_) <;> refine AL.es 1 ?_ <;> refine AL.nil ?_) | (refine AW.r 3 ?_ <;> refine AL.es 1 ?_ <;> (first | refine AL.d (AOp.call rfl rfl hF) ?_ | refine AL.d (AOp.call rfl rfl hN) ?_ | refine AL.d (AOp.call rfl rfl hM) ?_ | refine AL.d (AOp.call rfl rfl hRa) ?_ | refine AL.d (AOp.call rfl rfl hRb) ?_) <;> refine AL.es 3 ?_ <;> refine AL.alloc_store (by kernel_rfl) rfl rfl rfl rfl ?_ <;> refine AL.es 1 ?_ <;> refine AL.nil ?_) | refine AW.re 4 2 ?_ | (refine AW.r 6 ?_ <;> refine AL.es 1 ?_ <;> (first | refine AL.d (AOp.call rfl rfl hF) ?_ | refine AL.d (AOp.call rfl rfl hN) ?_ | refine AL.d (AOp.call rfl rfl hM) ?_ | refine AL.d (AOp.call rfl rfl hRa) ?_ | refine AL.d (AOp.call rfl rfl hRb) ?_) <;> refine AL.es 3 ?_ <;> refine AL.alloc_store (by kernel_rfl) rfl rfl rfl rfl ?_ <;> refine AL.es 1 ?_ <;> refine AL.nil ?_) | (refine AW.r 7 ?_ <;> refine AL.es 1 ?_ <;> (first | refine AL.d (AOp.call rfl rfl hF) ?_ | refine AL.d (AOp.call rfl rfl hN) ?_ | refine AL.d (AOp.call rfl rfl hM) ?_ | refine AL.d (AOp.call rfl rfl hRa) ?_ | refine AL.d (AOp.call rfl rfl hRb) ?_) <;> refine AL.es 5 ?_ <;> refine AL.nil ?_) | (refine AW.r 8 ?_ <;> refine AL.es 1 ?_ <;> (first | refine AL.d (AOp.call rfl rfl hF) ?_ | refine AL.d (AOp.call rfl rfl hN) ?_ | refine AL.d (AOp.call rfl rfl hM) ?_ | refine AL.d (AOp.call rfl rfl hRa) ?_ | refine AL.d (AOp.call rfl rfl hRb) ?_) <;> refine AL.es 5 ?_ <;> refine AL.nil ?_) | refine AW.jt ?_ | refine AW.jf ?_ | refine AW.jj (fun hb => ?_) (fun hb => ?_) | refine AW.go ?_ | fail)
        repeat' (first | (refine AW.r 9 ?_ <;> refine AL.es 3 ?_ <;> (first | refine AL.es 4 ?_ | (refine AL.gx (fun hb => ?_) (fun hb => ?_) <;> refine AL.es 4 ?_)) <;> (first | refine AL.es 4 ?_ | (refine AL.gx (fun hb => ?_) (fun hb => ?_) <;> refine AL.es 4 ?_)) <;> (first | refine AL.es 2 ?_ | (refine AL.gx (fun hb => ?_) (fun hb => ?_) <;> refine AL.es 2 ?_)) <;> (first | (refine AL.gd ?_; (first | refine AL.d (AOp.call rfl rfl hS) ?_ | refine AL.d (AOp.call rfl rfl hAl) ?_)) | refine AL.gs ?_ | refine AL.gu ?_) <;> refine AL.es 2 ?_ <;> (first | refine AL.es 5 ?_ | (refine AL.gx (fun hb => ?_) (fun hb => ?_) <;> refine AL.es 5 ?_)) <;> (first | (refine AL.gd ?_; (first | refine AL.d (AOp.call rfl rfl hS) ?_ | refine AL.d (AOp.call rfl rfl hAl) ?_)) | refine AL.gs ?_ | refine AL.gu ?_ | (refine AL.gx (fun hb => ?_) (fun hb => ?_) <;> first | (refine AL.gd ?_; (first | refine AL.d (AOp.call rfl rfl hS) ?_ | refine AL.d (AOp.call rfl rfl hAl) ?_)) | refine AL.gs ?_)) <;> refine AL.es 2 ?_ <;> refine AL.nil ?_) | refine AW.jt ?_ | refine AW.jf ?_ | refine AW.jj (fun hb => ?_) (fun hb => ?_) | refine AW.go ?_ | fail)
        all_goals first
          | exact AW.retv rfl ⟨rfl, rfl⟩
          | exact AW.retv rfl ⟨retB (by simp_all), rfl⟩
          | (exfalso; simp_all; done)
  · rw [decide_eq_false hfew] at hF
    obtain ⟨k, ar, nm, vars, args, kids⟩ := f
    refine Tri.enter 70 Tryd.func4 rfl rfl rfl rfl fun Fr w0 => ?_
    repeat' (first | (refine AW.r 0 ?_ <;> (first | refine AL.d (AOp.box_ro (v := .st [.int .i64 k, .int .i64 ar, .str nm, strs vars, strs args, .sl (kids.map GFml.av)]) rfl rfl) ?_ | refine AL.d (AOp.box_ro rfl rfl) ?_) <;> refine AL.es 1 ?_ <;> refine AL.nil ?_) | (refine AW.r 1 ?_ <;> refine AL.es 1 ?_ <;> refine AL.d (AOp.lit (e := 25) (sz := 6) (by kernel_rfl) rfl rfl rfl (P_one rfl) (by decide)) ?_ <;> (first | refine AL.d (AOp.call rfl rfl hF) ?_ | refine AL.d (AOp.call rfl rfl hAl) ?_) <;> refine AL.es 1 ?_ <;> refine AL.nil ?_) | (refine AW.r 2 ?_ <;> (first | refine AL.d (AOp.call rfl rfl hF) ?_ | refine AL.d (AOp.call rfl rfl hAl) ?_) <;> refine AL.es 1 ?_ <;> refine AL.nil ?_) | refine AW.jt ?_ | refine AW.jf ?_ | refine AW.jj (fun hb => ?_) (fun hb => ?_) | refine AW.go ?_ | fail)
    exact AW.retv rfl ⟨rfl, rfl⟩
end Go.Proofs.YtlpndgodkkndnaaDoor
namespace Go.Proofs.YtlpndgodkkndnaaDoor
open Go.RowKit Go.SX
set_option maxRecDepth 100000
set_option linter.unusedVariables false
section
variable {H : Type} {enc : TypeId × Value → H} {w : World}
theorem rdInt (N : Nat) : Rd enc Tryd.prog w N 3 iav iOk := Rd.int' (by kernel_rfl)
theorem rdStr (N : Nat) : Rd enc Tryd.prog w N 9 AV.str strOk := Rd.str' (by kernel_rfl)
theorem rdStrs (N : Nat) : Rd enc Tryd.prog w N 22 strs (lenOk 16 strOk) := Rd.slice' (by kernel_rfl) (rdStr N)
theorem rdFml : ∀ N : Nat, Rd enc Tryd.prog w N 25 GFml.av GFml.Ok := Rd.all fun N ih =>
  Rd.of_q (RdQ.struct' (by kernel_rfl) (.cons (rdInt N).q (.cons (rdInt N).q (.cons (rdStr N).q (.cons (rdStrs N).q (.cons (rdStrs N).q (.cons (Rd.slice' (T := 23) (n := 104) (by kernel_rfl) ih).q (.nil)))))))) fun v h => by
    obtain ⟨vs, rfl, h⟩ := h
    obtain ⟨_, v1, rfl, ⟨a, rfl, ha⟩, h1⟩ := h.un
    obtain ⟨_, v2, rfl, ⟨b, rfl, hb⟩, h2⟩ := h1.un
    obtain ⟨_, v3, rfl, ⟨c, rfl, hc⟩, h3⟩ := h2.un
    obtain ⟨_, v4, rfl, ⟨d, rfl, hd⟩, h4⟩ := h3.un
    obtain ⟨_, v5, rfl, ⟨e, rfl, he⟩, h5⟩ := h4.un
    obtain ⟨_, v6, rfl, ⟨f, rfl, hf⟩, h6⟩ := h5.un
    obtain rfl := h6.un0
    exact ⟨⟨a, b, c, d, e, f⟩, by rw [GFml.av_eq]; rfl, .mk ⟨ha, hb, hc, hd, he⟩ hf.1 hf.2⟩
end
end Go.Proofs.YtlpndgodkkndnaaDoor
