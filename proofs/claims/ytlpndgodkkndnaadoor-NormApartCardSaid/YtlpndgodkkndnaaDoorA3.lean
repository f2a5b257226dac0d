/- Contracts of the functions, part 3. -/
import Derived.Test.YtlpndgodkkndnaaDoorA2
import Derived.Test.YtlpndgodkkndnaaDoorA2
import Derived.Test.YtlpndgodkkndnaaDoorS2
import Derived.Test.YtlpndgodkkndnaaDoorS3
import Derived.Shelf.Strconv.Itoa3
import Derived.Test.YtlpndgodkkndnaaDoorProg
namespace Go.Proofs.YtlpndgodkkndnaaDoor
open Go.RowKit Go.SX
set_option maxRecDepth 100000
set_option maxHeartbeats 4000000
set_option linter.unusedVariables false
set_option linter.unusedSimpArgs false
theorem few_one (most : Int) (hm : 0 ≤ most ∧ most ≤ 1000000) (f : GFml) (ho : f.Ok) : Tri Tryd.prog 8 [.int .i64 most, .sl [f.st]] [] (D (.bool (decide (wFs most [f] 0 ≤ most))) []) := by
  have h := law_Few most hm [f] (by simp) (by intro x hx; rw [List.mem_singleton.1 hx]; exact ho)
  rw [List.map_cons, List.map_nil, GFml.av_eq] at h
  exact h
theorem law_NormNnf (f : GFml) (ho : f.Ok) : Tri Tryd.prog 3 [f.st] [] (D (.bool true) []) := by
  have hF := few_one 5000 (by omega) f ho
  have hAl := alive
  by_cases hfew : wFs 5000 [f] 0 ≤ 5000
  · rw [decide_eq_true hfew] at hF
    have hnd := few_nd hfew (by omega)
    have hN := n_Nnf f ho
    have hV := ref_Valid f ho (by omega)
    have hwk := nn_ok f false ho
    have hwn := nn_nd f false
    have hW := fun h => ref_Nnf _ f false (Nat.le_refl _) ho (validF_shs h)
    have hVW := ref_Valid (nnF f false) hwk (by omega)
    have hS0 := ref_Same _ noF noF (Nat.le_refl _) noF_ok noF_ok
    have hSW := ref_Same _ (nnF f false) (nnF f false) (Nat.le_refl _) hwk hwk
    rw [eqF_refl] at hS0 hSW
    unfold nnfP fitF at hN
    clear hwk hwn hnd hfew
    generalize nnF f false = g at *
    generalize validF f = V at *
    generalize validF g = W at *
    obtain ⟨k, ar, nm, vars, args, kids⟩ := f
    cases V with
    | false =>
      clear hW
      refine Tri.enter 54 Tryd.func3 rfl rfl rfl rfl fun Fr w0 => ?_
      repeat' (first | (refine AW.r 0 ?_ <;> (first | refine AL.d (AOp.box_ro (v := .st [.int .i64 k, .int .i64 ar, .str nm, strs vars, strs args, .sl (kids.map GFml.av)]) rfl rfl) ?_ | refine AL.d (AOp.box_ro rfl rfl) ?_) <;> refine AL.es 1 ?_ <;> refine AL.nil ?_) | (refine AW.r 1 ?_ <;> refine AL.es 1 ?_ <;> refine AL.d (AOp.lit (e := 25) (sz := 6) (by kernel_rfl) rfl rfl rfl (P_one rfl) (by decide)) ?_ <;> (first | refine AL.d (AOp.call rfl rfl hF) ?_ | refine AL.d (AOp.call rfl rfl hN) ?_ | refine AL.d (AOp.call rfl rfl hV) ?_ | refine AL.d (AOp.call rfl rfl hS0) ?_ | refine AL.d (AOp.call rfl rfl hAl) ?_) <;> refine AL.es 1 ?_ <;> refine AL.nil ?_) | (refine AW.r 3 ?_ <;> refine AL.es 1 ?_ <;> (first | refine AL.d (AOp.call rfl rfl hF) ?_ | refine AL.d (AOp.call rfl rfl hN) ?_ | refine AL.d (AOp.call rfl rfl hV) ?_ | refine AL.d (AOp.call rfl rfl hS0) ?_ | refine AL.d (AOp.call rfl rfl hAl) ?_) <;> refine AL.es 3 ?_ <;> refine AL.alloc_store (by kernel_rfl) rfl rfl rfl rfl ?_ <;> refine AL.es 1 ?_ <;> refine AL.nil ?_) | (refine AW.r 4 ?_ <;> refine AL.es 1 ?_ <;> (first | refine AL.d (AOp.call rfl rfl hF) ?_ | refine AL.d (AOp.call rfl rfl hN) ?_ | refine AL.d (AOp.call rfl rfl hV) ?_ | refine AL.d (AOp.call rfl rfl hS0) ?_ | refine AL.d (AOp.call rfl rfl hAl) ?_) <;> refine AL.es 1 ?_ <;> refine AL.nil ?_) | (refine AW.r 5 ?_ <;> refine AL.es 3 ?_ <;> (first | refine AL.es 1 ?_ | (refine AL.gx (fun hb => ?_) (fun hb => ?_) <;> refine AL.es 1 ?_)) <;> (first | (refine AL.gd ?_; refine AL.d (AOp.build (pl := [(0, 1), (1, 1), (2, 1), (3, 1), (4, 1), (5, 1)]) (z := .st [.int .i64 0, .int .i64 0, .str ⟨#[]⟩, .sl [], .sl [], .sl []]) (by kernel_rfl) rfl rfl rfl) ?_) | refine AL.gs ?_ | refine AL.gu ?_) <;> (first | (refine AL.gd ?_; (first | refine AL.d (AOp.call rfl rfl hF) ?_ | refine AL.d (AOp.call rfl rfl hN) ?_ | refine AL.d (AOp.call rfl rfl hV) ?_ | refine AL.d (AOp.call rfl rfl hS0) ?_ | refine AL.d (AOp.call rfl rfl hAl) ?_)) | refine AL.gs ?_ | refine AL.gu ?_) <;> refine AL.es 2 ?_ <;> (first | (refine AL.gd ?_; (first | refine AL.d (AOp.call rfl rfl hF) ?_ | refine AL.d (AOp.call rfl rfl hN) ?_ | refine AL.d (AOp.call rfl rfl hV) ?_ | refine AL.d (AOp.call rfl rfl hS0) ?_ | refine AL.d (AOp.call rfl rfl hAl) ?_)) | refine AL.gs ?_ | refine AL.gu ?_ | (refine AL.gx (fun hb => ?_) (fun hb => ?_) <;> first | (refine AL.gd ?_; (first | refine AL.d (AOp.call rfl rfl hF) ?_ | refine AL.d (AOp.call rfl rfl hN) ?_ | refine AL.d (AOp.call rfl rfl hV) ?_ | refine AL.d (AOp.call rfl rfl hS0) ?_ | refine AL.d (AOp.call rfl rfl hAl) ?_)) | refine AL.gs ?_)) <;> refine AL.es 2 ?_ <;> refine AL.nil ?_) | refine AW.jt ?_ | refine AW.jf ?_ | refine AW.jj (fun hb => ?_) (fun hb => ?_) | refine AW.go ?_ | fail)
      exact AW.retv rfl ⟨rfl, rfl⟩
    | true =>
      have hWn := hW rfl
      clear hW
      cases W with
      | false =>
        refine Tri.enter 54 Tryd.func3 rfl rfl rfl rfl fun Fr w0 => ?_
        repeat' (first | (refine AW.r 0 ?_ <;> (first | refine AL.d (AOp.box_ro (v := .st [.int .i64 k, .int .i64 ar, .str nm, strs vars, strs args, .sl (kids.map GFml.av)]) rfl rfl) ?_ | refine AL.d (AOp.box_ro rfl rfl) ?_) <;> refine AL.es 1 ?_ <;> refine AL.nil ?_) | (refine AW.r 1 ?_ <;> refine AL.es 1 ?_ <;> refine AL.d (AOp.lit (e := 25) (sz := 6) (by kernel_rfl) rfl rfl rfl (P_one rfl) (by decide)) ?_ <;> (first | refine AL.d (AOp.call rfl rfl hF) ?_ | refine AL.d (AOp.call rfl rfl hN) ?_ | refine AL.d (AOp.call rfl rfl hV) ?_ | refine AL.d (AOp.call rfl rfl hWn) ?_ | refine AL.d (AOp.call rfl rfl hVW) ?_ | refine AL.d (AOp.call rfl rfl hS0) ?_ | refine AL.d (AOp.call rfl rfl hAl) ?_) <;> refine AL.es 1 ?_ <;> refine AL.nil ?_) | (refine AW.r 3 ?_ <;> refine AL.es 1 ?_ <;> (first | refine AL.d (AOp.call rfl rfl hF) ?_ | refine AL.d (AOp.call rfl rfl hN) ?_ | refine AL.d (AOp.call rfl rfl hV) ?_ | refine AL.d (AOp.call rfl rfl hWn) ?_ | refine AL.d (AOp.call rfl rfl hVW) ?_ | refine AL.d (AOp.call rfl rfl hS0) ?_ | refine AL.d (AOp.call rfl rfl hAl) ?_) <;> refine AL.es 3 ?_ <;> refine AL.alloc_store (by kernel_rfl) rfl rfl rfl rfl ?_ <;> refine AL.es 1 ?_ <;> refine AL.nil ?_) | (refine AW.r 4 ?_ <;> refine AL.es 1 ?_ <;> (first | refine AL.d (AOp.call rfl rfl hF) ?_ | refine AL.d (AOp.call rfl rfl hN) ?_ | refine AL.d (AOp.call rfl rfl hV) ?_ | refine AL.d (AOp.call rfl rfl hWn) ?_ | refine AL.d (AOp.call rfl rfl hVW) ?_ | refine AL.d (AOp.call rfl rfl hS0) ?_ | refine AL.d (AOp.call rfl rfl hAl) ?_) <;> refine AL.es 1 ?_ <;> refine AL.nil ?_) | (refine AW.r 6 ?_ <;> refine AL.es 1 ?_ <;> (first | refine AL.d (AOp.call rfl rfl hF) ?_ | refine AL.d (AOp.call rfl rfl hN) ?_ | refine AL.d (AOp.call rfl rfl hV) ?_ | refine AL.d (AOp.call rfl rfl hWn) ?_ | refine AL.d (AOp.call rfl rfl hVW) ?_ | refine AL.d (AOp.call rfl rfl hS0) ?_ | refine AL.d (AOp.call rfl rfl hAl) ?_) <;> refine AL.alloc_store (by kernel_rfl) rfl rfl rfl rfl ?_ <;> refine AL.nil ?_) | (refine AW.r 7 ?_ <;> refine AL.es 1 ?_ <;> (first | refine AL.d (AOp.call rfl rfl hF) ?_ | refine AL.d (AOp.call rfl rfl hN) ?_ | refine AL.d (AOp.call rfl rfl hV) ?_ | refine AL.d (AOp.call rfl rfl hWn) ?_ | refine AL.d (AOp.call rfl rfl hVW) ?_ | refine AL.d (AOp.call rfl rfl hS0) ?_ | refine AL.d (AOp.call rfl rfl hAl) ?_) <;> refine AL.es 1 ?_ <;> refine AL.nil ?_) | (refine AW.r 8 ?_ <;> refine AL.es 3 ?_ <;> (first | refine AL.es 1 ?_ | (refine AL.gx (fun hb => ?_) (fun hb => ?_) <;> refine AL.es 1 ?_)) <;> (first | (refine AL.gd ?_; refine AL.d (AOp.build (pl := [(0, 1), (1, 1), (2, 1), (3, 1), (4, 1), (5, 1)]) (z := .st [.int .i64 0, .int .i64 0, .str ⟨#[]⟩, .sl [], .sl [], .sl []]) (by kernel_rfl) rfl rfl rfl) ?_) | refine AL.gs ?_ | refine AL.gu ?_) <;> (first | (refine AL.gd ?_; (first | refine AL.d (AOp.call rfl rfl hF) ?_ | refine AL.d (AOp.call rfl rfl hN) ?_ | refine AL.d (AOp.call rfl rfl hV) ?_ | refine AL.d (AOp.call rfl rfl hWn) ?_ | refine AL.d (AOp.call rfl rfl hVW) ?_ | refine AL.d (AOp.call rfl rfl hS0) ?_ | refine AL.d (AOp.call rfl rfl hAl) ?_)) | refine AL.gs ?_ | refine AL.gu ?_) <;> refine AL.es 2 ?_ <;> (first | (refine AL.gd ?_; (first | refine AL.d (AOp.call rfl rfl hF) ?_ | refine AL.d (AOp.call rfl rfl hN) ?_ | refine AL.d (AOp.call rfl rfl hV) ?_ | refine AL.d (AOp.call rfl rfl hWn) ?_ | refine AL.d (AOp.call rfl rfl hVW) ?_ | refine AL.d (AOp.call rfl rfl hS0) ?_ | refine AL.d (AOp.call rfl rfl hAl) ?_)) | refine AL.gs ?_ | refine AL.gu ?_ | (refine AL.gx (fun hb => ?_) (fun hb => ?_) <;> first | (refine AL.gd ?_; (first | refine AL.d (AOp.call rfl rfl hF) ?_ | refine AL.d (AOp.call rfl rfl hN) ?_ | refine AL.d (AOp.call rfl rfl hV) ?_ | refine AL.d (AOp.call rfl rfl hWn) ?_ | refine AL.d (AOp.call rfl rfl hVW) ?_ | refine AL.d (AOp.call rfl rfl hS0) ?_ | refine AL.d (AOp.call rfl rfl hAl) ?_)) | refine AL.gs ?_)) <;> refine AL.es 2 ?_ <;> refine AL.nil ?_) | refine AW.jt ?_ | refine AW.jf ?_ | refine AW.jj (fun hb => ?_) (fun hb => ?_) | refine AW.go ?_ | fail)
        exact AW.retv rfl ⟨rfl, rfl⟩
      | true =>
        refine Tri.enter 54 Tryd.func3 rfl rfl rfl rfl fun Fr w0 => ?_
        repeat' (first | (refine AW.r 0 ?_ <;> (first | refine AL.d (AOp.box_ro (v := .st [.int .i64 k, .int .i64 ar, .str nm, strs vars, strs args, .sl (kids.map GFml.av)]) rfl rfl) ?_ | refine AL.d (AOp.box_ro rfl rfl) ?_) <;> refine AL.es 1 ?_ <;> refine AL.nil ?_) | (refine AW.r 1 ?_ <;> refine AL.es 1 ?_ <;> refine AL.d (AOp.lit (e := 25) (sz := 6) (by kernel_rfl) rfl rfl rfl (P_one rfl) (by decide)) ?_ <;> (first | refine AL.d (AOp.call rfl rfl hF) ?_ | refine AL.d (AOp.call rfl rfl hN) ?_ | refine AL.d (AOp.call rfl rfl hV) ?_ | refine AL.d (AOp.call rfl rfl hWn) ?_ | refine AL.d (AOp.call rfl rfl hVW) ?_ | refine AL.d (AOp.call rfl rfl hSW) ?_ | refine AL.d (AOp.call rfl rfl hAl) ?_) <;> refine AL.es 1 ?_ <;> refine AL.nil ?_) | (refine AW.r 3 ?_ <;> refine AL.es 1 ?_ <;> (first | refine AL.d (AOp.call rfl rfl hF) ?_ | refine AL.d (AOp.call rfl rfl hN) ?_ | refine AL.d (AOp.call rfl rfl hV) ?_ | refine AL.d (AOp.call rfl rfl hWn) ?_ | refine AL.d (AOp.call rfl rfl hVW) ?_ | refine AL.d (AOp.call rfl rfl hSW) ?_ | refine AL.d (AOp.call rfl rfl hAl) ?_) <;> refine AL.es 3 ?_ <;> refine AL.alloc_store (by kernel_rfl) rfl rfl rfl rfl ?_ <;> refine AL.es 1 ?_ <;> refine AL.nil ?_) | (refine AW.r 4 ?_ <;> refine AL.es 1 ?_ <;> (first | refine AL.d (AOp.call rfl rfl hF) ?_ | refine AL.d (AOp.call rfl rfl hN) ?_ | refine AL.d (AOp.call rfl rfl hV) ?_ | refine AL.d (AOp.call rfl rfl hWn) ?_ | refine AL.d (AOp.call rfl rfl hVW) ?_ | refine AL.d (AOp.call rfl rfl hSW) ?_ | refine AL.d (AOp.call rfl rfl hAl) ?_) <;> refine AL.es 1 ?_ <;> refine AL.nil ?_) | (refine AW.r 6 ?_ <;> refine AL.es 1 ?_ <;> (first | refine AL.d (AOp.call rfl rfl hF) ?_ | refine AL.d (AOp.call rfl rfl hN) ?_ | refine AL.d (AOp.call rfl rfl hV) ?_ | refine AL.d (AOp.call rfl rfl hWn) ?_ | refine AL.d (AOp.call rfl rfl hVW) ?_ | refine AL.d (AOp.call rfl rfl hSW) ?_ | refine AL.d (AOp.call rfl rfl hAl) ?_) <;> refine AL.alloc_store (by kernel_rfl) rfl rfl rfl rfl ?_ <;> refine AL.nil ?_) | (refine AW.r 7 ?_ <;> refine AL.es 1 ?_ <;> (first | refine AL.d (AOp.call rfl rfl hF) ?_ | refine AL.d (AOp.call rfl rfl hN) ?_ | refine AL.d (AOp.call rfl rfl hV) ?_ | refine AL.d (AOp.call rfl rfl hWn) ?_ | refine AL.d (AOp.call rfl rfl hVW) ?_ | refine AL.d (AOp.call rfl rfl hSW) ?_ | refine AL.d (AOp.call rfl rfl hAl) ?_) <;> refine AL.es 1 ?_ <;> refine AL.nil ?_) | (refine AW.r 9 ?_ <;> refine AL.es 3 ?_ <;> (first | refine AL.es 2 ?_ | (refine AL.gx (fun hb => ?_) (fun hb => ?_) <;> refine AL.es 2 ?_)) <;> (first | (refine AL.gd ?_; (first | refine AL.d (AOp.call rfl rfl hF) ?_ | refine AL.d (AOp.call rfl rfl hN) ?_ | refine AL.d (AOp.call rfl rfl hV) ?_ | refine AL.d (AOp.call rfl rfl hWn) ?_ | refine AL.d (AOp.call rfl rfl hVW) ?_ | refine AL.d (AOp.call rfl rfl hSW) ?_ | refine AL.d (AOp.call rfl rfl hAl) ?_)) | refine AL.gs ?_ | refine AL.gu ?_) <;> refine AL.es 2 ?_ <;> (first | (refine AL.gd ?_; (first | refine AL.d (AOp.call rfl rfl hF) ?_ | refine AL.d (AOp.call rfl rfl hN) ?_ | refine AL.d (AOp.call rfl rfl hV) ?_ | refine AL.d (AOp.call rfl rfl hWn) ?_ | refine AL.d (AOp.call rfl rfl hVW) ?_ | refine AL.d (AOp.call rfl rfl hSW) ?_ | refine AL.d (AOp.call rfl rfl hAl) ?_)) | refine AL.gs ?_ | refine AL.gu ?_ | (refine AL.gx (fun hb => ?_) (fun hb => ?_) <;> first | (refine AL.gd ?_; (first | refine AL.d (AOp.call rfl rfl hF) ?_ | refine AL.d (AOp.call rfl rfl hN) ?_ | refine AL.d (AOp.call rfl rfl hV) ?_ | refine AL.d (AOp.call rfl rfl hWn) ?_ | refine AL.d (AOp.call rfl rfl hVW) ?_ | refine AL.d (AOp.call rfl rfl hSW) ?_ | refine AL.d (AOp.call rfl rfl hAl) ?_)) | refine AL.gs ?_)) <;> refine AL.es 2 ?_ <;> refine AL.nil ?_) | refine AW.jt ?_ | refine AW.jf ?_ | refine AW.jj (fun hb => ?_) (fun hb => ?_) | refine AW.go ?_ | fail)
        exact AW.retv rfl ⟨rfl, rfl⟩
  · rw [decide_eq_false hfew] at hF
    obtain ⟨k, ar, nm, vars, args, kids⟩ := f
    refine Tri.enter 54 Tryd.func3 rfl rfl rfl rfl fun Fr w0 => ?_
    repeat' (first | (refine AW.r 0 ?_ <;> (first | refine AL.d (AOp.box_ro (v := .st [.int .i64 k, .int .i64 ar, .str nm, strs vars, strs args, .sl (kids.map GFml.av)]) rfl rfl) ?_ | refine AL.d (AOp.box_ro rfl rfl) ?_) <;> refine AL.es 1 ?_ <;> refine AL.nil ?_) | (refine AW.r 1 ?_ <;> refine AL.es 1 ?_ <;> refine AL.d (AOp.lit (e := 25) (sz := 6) (by kernel_rfl) rfl rfl rfl (P_one rfl) (by decide)) ?_ <;> (first | refine AL.d (AOp.call rfl rfl hF) ?_ | refine AL.d (AOp.call rfl rfl hAl) ?_) <;> refine AL.es 1 ?_ <;> refine AL.nil ?_) | (refine AW.r 2 ?_ <;> (first | refine AL.d (AOp.call rfl rfl hF) ?_ | refine AL.d (AOp.call rfl rfl hAl) ?_) <;> refine AL.es 1 ?_ <;> refine AL.nil ?_) | refine AW.jt ?_ | refine AW.jf ?_ | refine AW.jj (fun hb => ?_) (fun hb => ?_) | refine AW.go ?_ | fail)
    exact AW.retv rfl ⟨rfl, rfl⟩
end Go.Proofs.YtlpndgodkkndnaaDoor
namespace Go.Proofs.YtlpndgodkkndnaaDoor
open Go.RowKit Go.SX
set_option maxRecDepth 100000
set_option maxHeartbeats 4000000
set_option linter.unusedVariables false
set_option linter.unusedSimpArgs false
theorem rules_v1 (k : Int) : (rulesP k).v1 ≤ 24 := by
  unfold rulesP
  repeat' split
  all_goals decide
theorem shaped_vars {f : GFml} (h : shapedP f = true) : f.Vars.length ≤ 24 := by
  simp only [shapedP, shp3, Bool.and_eq_true, decide_eq_true_eq] at h
  have h1 := h.2.1.2.1.2
  have h2 := rules_v1 f.Kind
  omega
theorem rules_a1 (k : Int) : (rulesP k).a1 ≤ 24 := by
  unfold rulesP
  repeat' split
  all_goals decide
theorem shaped_args {f : GFml} (h : shapedP f = true) : f.Args.length ≤ 24 := by
  simp only [shapedP, shp3, Bool.and_eq_true, decide_eq_true_eq] at h
  have h1 := h.2.1.1.1.2
  have h2 := rules_a1 f.Kind
  omega
theorem varOk_of (f : GFml) : shsF f = true → VarOk f := by
  generalize hN : ndF f = N
  induction N using Nat.strongRecOn generalizing f with
  | _ N ih =>
    intro h
    have hnd := ndF_eq f
    rw [shsF_eq, Bool.and_eq_true] at h
    exact .mk (by have := shaped_vars h.2; omega) fun x hx => ih (ndF x) (by have := ndFs_mem hx; omega) x rfl (shsFs_mem h.1 hx)
theorem n_Rank (f : GFml) (ho : f.Ok) (hn : ndF f ≤ 1000000) : Tri Tryd.prog 15 [f.st] [] (D (.tup [.int .i64 (bif validF f then rkF f else 0), .int .i64 (bif validF f then 0 else 1)]) []) := by
  have hv := f_Valid f ho
  have hR := fun h => n_rank _ f (Nat.le_refl _) ho (varOk_of f (validF_shs h)) hn
  generalize validF f = V at *
  obtain ⟨k, ar, nm, vars, args, kids⟩ := f
  cases V with
  | true =>
    have hR' := hR rfl
    rw [cond_true, cond_true]
    refine Tri.enter 9 Tryd.func15 rfl rfl rfl rfl fun Fr w0 => ?_
    repeat' (first | (refine AW.r 0 ?_ <;> (first | refine AL.d (AOp.box_ro (v := .st [.int .i64 k, .int .i64 ar, .str nm, strs vars, strs args, .sl (kids.map GFml.av)]) rfl rfl) ?_ | refine AL.d (AOp.box_ro rfl rfl) ?_) <;> refine AL.es 2 ?_ <;> refine AL.nil ?_) | (refine AW.r 1 ?_ <;> refine AL.es 1 ?_ <;> (first | refine AL.d (AOp.call rfl rfl hv) ?_ | refine AL.d (AOp.call rfl rfl hR') ?_) <;> refine AL.es 1 ?_ <;> refine AL.nil ?_) | (refine AW.r 3 ?_ <;> refine AL.es 1 ?_ <;> (first | refine AL.d (AOp.call rfl rfl hv) ?_ | refine AL.d (AOp.call rfl rfl hR') ?_) <;> refine AL.es 2 ?_ <;> refine AL.nil ?_) | refine AW.jt ?_ | refine AW.jf ?_ | refine AW.jj (fun hb => ?_) (fun hb => ?_) | refine AW.go ?_ | fail)
    exact AW.retv rfl ⟨rfl, rfl⟩
  | false =>
    rw [cond_false, cond_false]
    refine Tri.enter 9 Tryd.func15 rfl rfl rfl rfl fun Fr w0 => ?_
    repeat' (first | (refine AW.r 0 ?_ <;> (first | refine AL.d (AOp.box_ro (v := .st [.int .i64 k, .int .i64 ar, .str nm, strs vars, strs args, .sl (kids.map GFml.av)]) rfl rfl) ?_ | refine AL.d (AOp.box_ro rfl rfl) ?_) <;> refine AL.es 2 ?_ <;> refine AL.nil ?_) | (refine AW.r 1 ?_ <;> refine AL.es 1 ?_ <;> refine AL.d (AOp.call rfl rfl hv) ?_ <;> refine AL.es 1 ?_ <;> refine AL.nil ?_) | refine AW.re 2 2 ?_ | refine AW.jt ?_ | refine AW.jf ?_ | refine AW.jj (fun hb => ?_) (fun hb => ?_) | refine AW.go ?_ | fail)
    exact AW.retv rfl ⟨rfl, rfl⟩
theorem law_NormAgain (f : GFml) (ho : f.Ok) : Tri Tryd.prog 4 [f.st] [] (D (.bool true) []) := by
  have hF := few_one 1500 (by omega) f ho
  have hAl := alive
  by_cases hfew : wFs 1500 [f] 0 ≤ 1500
  · rw [decide_eq_true hfew] at hF
    have hnd := few_nd hfew (by omega)
    have hN := n_Nnf f ho
    have hV := f_Valid f ho
    have hwk := nn_ok f false ho
    have hwn := nn_nd f false
    have hRa := n_Rank f ho (by omega)
    have hRb := n_Rank (nnF f false) hwk (by omega)
    have hM := n_Nnf (nnF f false) hwk
    have hS := ref_Same _ (nnF f false) (nnF f false) (Nat.le_refl _) hwk hwk
    have hrk := fun h => nn_rk f false (validF_shs h)
    rw [eqF_refl] at hS
    unfold nnfP fitF at hN hM
    rw [nn_nn] at hM
    clear hwk hwn hnd hfew
    generalize nnF f false = g at *
    generalize validF f = V at *
    generalize validF g = W at *
    generalize rkF f = ra at *
    generalize rkF g = rb at *
    obtain ⟨k, ar, nm, vars, args, kids⟩ := f
    cases V with
    | false =>
      refine Tri.enter 70 Tryd.func4 rfl rfl rfl rfl fun Fr w0 => ?_
      repeat' (first | (refine AW.r 0 ?_ <;> (first | refine AL.d (AOp.box_ro (v := .st [.int .i64 k, .int .i64 ar, .str nm, strs vars, strs args, .sl (kids.map GFml.av)]) rfl rfl) ?_ | refine AL.d (AOp.box_ro rfl rfl) ?_) <;> refine AL.es 1 ?_ <;> refine AL.nil ?_) | (refine AW.r 1 ?_ <;> refine AL.es 1 ?_ <;> refine AL.d (AOp.lit (e := 25) (sz := 6) (by kernel_rfl) rfl rfl rfl (P_one rfl) (by decide)) ?_ <;> (first | refine AL.d (AOp.call rfl rfl hF) ?_ | refine AL.d (AOp.call rfl rfl hN) ?_ | refine AL.d (AOp.call rfl rfl hV) ?_ | refine AL.d (AOp.call rfl rfl hAl) ?_) <;> refine AL.es 1 ?_ <;> refine AL.nil ?_) | (refine AW.r 3 ?_ <;> refine AL.es 1 ?_ <;> (first | refine AL.d (AOp.call rfl rfl hF) ?_ | refine AL.d (AOp.call rfl rfl hN) ?_ | refine AL.d (AOp.call rfl rfl hV) ?_ | refine AL.d (AOp.call rfl rfl hAl) ?_) <;> refine AL.es 3 ?_ <;> refine AL.alloc_store (by kernel_rfl) rfl rfl rfl rfl ?_ <;> refine AL.es 1 ?_ <;> refine AL.nil ?_) | refine AW.re 4 2 ?_ | (refine AW.r 5 ?_ <;> refine AL.es 3 ?_ <;> (first | refine AL.d (AOp.call rfl rfl hF) ?_ | refine AL.d (AOp.call rfl rfl hN) ?_ | refine AL.d (AOp.call rfl rfl hV) ?_ | refine AL.d (AOp.call rfl rfl hAl) ?_) <;> refine AL.es 1 ?_ <;> (first | refine AL.e ?_ | refine AL.d AOp.be ?_) <;> refine AL.es 1 ?_ <;> (first | (refine AL.gd ?_; (first | refine AL.d (AOp.call rfl rfl hF) ?_ | refine AL.d (AOp.call rfl rfl hN) ?_ | refine AL.d (AOp.call rfl rfl hV) ?_ | refine AL.d (AOp.call rfl rfl hAl) ?_)) | refine AL.gs ?_ | refine AL.gu ?_ | (refine AL.gx (fun hb => ?_) (fun hb => ?_) <;> first | (refine AL.gd ?_; (first | refine AL.d (AOp.call rfl rfl hF) ?_ | refine AL.d (AOp.call rfl rfl hN) ?_ | refine AL.d (AOp.call rfl rfl hV) ?_ | refine AL.d (AOp.call rfl rfl hAl) ?_)) | refine AL.gs ?_)) <;> refine AL.es 2 ?_ <;> refine AL.nil ?_) | refine AW.jt ?_ | refine AW.jf ?_ | refine AW.jj (fun hb => ?_) (fun hb => ?_) | refine AW.go ?_ | fail)
      exact AW.retv rfl ⟨rfl, rfl⟩
    | true =>
      cases W with
      | false =>
        refine Tri.enter 70 Tryd.func4 rfl rfl rfl rfl fun Fr w0 => ?_
        repeat' (first | (refine AW.r 0 ?_ <;> (first | refine AL.d (AOp.box_ro (v := .st [.int .i64 k, .int .i64 ar, .str nm, strs vars, strs args, .sl (kids.map GFml.av)]) rfl rfl) ?_ | refine AL.d (AOp.box_ro rfl rfl) ?_) <;> refine AL.es 1 ?_ <;> refine AL.nil ?_) | (refine AW.r 1 ?_ <;> refine AL.es 1 ?_ <;> refine AL.d (AOp.lit (e := 25) (sz := 6) (by kernel_rfl) rfl rfl rfl (P_one rfl) (by decide)) ?_ <;> (first | refine AL.d (AOp.call rfl rfl hF) ?_ | refine AL.d (AOp.call rfl rfl hN) ?_ | refine AL.d (AOp.call rfl rfl hV) ?_ | refine AL.d (AOp.call rfl rfl hAl) ?_) <;> refine AL.es 1 ?_ <;> refine AL.nil ?_) | (refine AW.r 3 ?_ <;> refine AL.es 1 ?_ <;> (first | refine AL.d (AOp.call rfl rfl hF) ?_ | refine AL.d (AOp.call rfl rfl hN) ?_ | refine AL.d (AOp.call rfl rfl hV) ?_ | refine AL.d (AOp.call rfl rfl hAl) ?_) <;> refine AL.es 3 ?_ <;> refine AL.alloc_store (by kernel_rfl) rfl rfl rfl rfl ?_ <;> refine AL.es 1 ?_ <;> refine AL.nil ?_) | refine AW.re 4 2 ?_ | (refine AW.r 5 ?_ <;> refine AL.es 3 ?_ <;> (first | refine AL.d (AOp.call rfl rfl hF) ?_ | refine AL.d (AOp.call rfl rfl hN) ?_ | refine AL.d (AOp.call rfl rfl hV) ?_ | refine AL.d (AOp.call rfl rfl hAl) ?_) <;> refine AL.es 1 ?_ <;> (first | refine AL.e ?_ | refine AL.d AOp.be ?_) <;> refine AL.es 1 ?_ <;> (first | (refine AL.gd ?_; (first | refine AL.d (AOp.call rfl rfl hF) ?_ | refine AL.d (AOp.call rfl rfl hN) ?_ | refine AL.d (AOp.call rfl rfl hV) ?_ | refine AL.d (AOp.call rfl rfl hAl) ?_)) | refine AL.gs ?_ | refine AL.gu ?_ | (refine AL.gx (fun hb => ?_) (fun hb => ?_) <;> first | (refine AL.gd ?_; (first | refine AL.d (AOp.call rfl rfl hF) ?_ | refine AL.d (AOp.call rfl rfl hN) ?_ | refine AL.d (AOp.call rfl rfl hV) ?_ | refine AL.d (AOp.call rfl rfl hAl) ?_)) | refine AL.gs ?_)) <;> refine AL.es 2 ?_ <;> refine AL.nil ?_) | refine AW.jt ?_ | refine AW.jf ?_ | refine AW.jj (fun hb => ?_) (fun hb => ?_) | refine AW.go ?_ | fail)
        exact AW.retv rfl ⟨rfl, rfl⟩
      | true =>
        have hrk' : rb = ra := hrk rfl
        subst hrk'
        refine Tri.enter 70 Tryd.func4 rfl rfl rfl rfl fun Fr w0 => ?_
        repeat' (first | (refine AW.r 0 ?_ <;> (first | refine AL.d (AOp.box_ro (v := .st [.int .i64 k, .int .i64 ar, .str nm, strs vars, strs args, .sl (kids.map GFml.av)]) rfl rfl) ?_ | refine AL.d (AOp.box_ro rfl rfl) ?_) <;> refine AL.es 1 ?_ <;> refine AL.nil ?_) | (refine AW.r 1 ?_ <;> refine AL.es 1 ?_ <;> refine AL.d (AOp.lit (e := 25) (sz := 6) (by kernel_rfl) rfl rfl rfl (P_one rfl) (by decide)) ?_ <;> (first | refine AL.d (AOp.call rfl rfl hF) ?_ | refine AL.d (AOp.call rfl rfl hN) ?_ | refine AL.d (AOp.call rfl rfl hM) ?_ | refine AL.d (AOp.call rfl rfl hRa) ?_ | refine AL.d (AOp.call rfl rfl hRb) ?_) <;> refine AL.es 1 ?_ <;> refine AL.nil ?_) | (refine AW.r 3 ?_ <;> refine AL.es 1 ?_ <;> (first | refine AL.d (AOp.call rfl rfl hF) ?_ | refine AL.d (AOp.call rfl rfl hN) ?_ | refine AL.d (AOp.call rfl rfl hM) ?_ | refine AL.d (AOp.call rfl rfl hRa) ?_ | refine AL.d (AOp.call rfl rfl hRb) ?_) <;> refine AL.es 3 ?_ <;> refine AL.alloc_store (by kernel_rfl) rfl rfl rfl rfl ?_ <;> refine AL.es 1 ?_ <;> refine AL.nil ?_) | refine AW.re 4 2 ?_ | (refine AW.r 6 ?_ <;> refine AL.es 1 ?_ <;> (first | refine AL.d (AOp.call rfl rfl hF) ?_ | refine AL.d (AOp.call rfl rfl hN) ?_ | refine AL.d (AOp.call rfl rfl hM) ?_ | refine AL.d (AOp.call rfl rfl hRa) ?_ | refine AL.d (AOp.call rfl rfl hRb) ?_) <;> refine AL.es 3 ?_ <;> refine AL.alloc_store (by kernel_rfl) rfl rfl rfl rfl ?_ <;> refine AL.es 1 ?_ <;> refine AL.nil ?_) | (refine AW.r 7 ?_ <;> refine AL.es 1 ?_ <;> (first | refine AL.d (AOp.call rfl rfl hF) ?_ | refine AL.d (AOp.call rfl rfl hN) ?_ | refine AL.d (AOp.call rfl rfl hM) ?_ | refine AL.d (AOp.call rfl rfl hRa) ?_ | refine AL.d (AOp.call rfl rfl hRb) ?_) <;> refine AL.es 5 ?_ <;> refine AL.nil ?_) | (refine AW.r 8 ?_ <;> refine AL.es 1 ?_ <;> (first | refine AL.d (AOp.call rfl rfl hF) ?_ | refine AL.d (AOp.call rfl rfl hN) ?_ | refine AL.d (AOp.call rfl rfl hM) ?_ | refine AL.d (AOp.call rfl rfl hRa) ?_ | refine AL.d (AOp.call rfl rfl hRb) ?_) <;> refine AL.es 5 ?_ <;> refine AL.nil ?_) | refine AW.jt ?_ | refine AW.jf ?_ | refine AW.jj (fun hb => ?_) (fun hb => ?_) | refine AW.go ?_ | fail)
        repeat' (first | (refine AW.r 9 ?_ <;> refine AL.es 3 ?_ <;> (first | refine AL.es 4 ?_ | (refine AL.gx (fun hb => ?_) (fun hb => ?_) <;> refine AL.es 4 ?_)) <;> (first | refine AL.es 4 ?_ | (refine AL.gx (fun hb => ?_) (fun hb => ?_) <;> refine AL.es 4 ?_)) <;> (first | refine AL.es 2 ?_ | (refine AL.gx (fun hb => ?_) (fun hb => ?_) <;> refine AL.es 2 ?_)) <;> (first | (refine AL.gd ?_; (first | refine AL.d (AOp.call rfl rfl hS) ?_ | refine AL.d (AOp.call rfl rfl hAl) ?_)) | refine AL.gs ?_ | refine AL.gu ?_) <;> refine AL.es 2 ?_ <;> (first | refine AL.es 5 ?_ | (refine AL.gx (fun hb => ?_) (fun hb => ?_) <;> refine AL.es 5 ?_)) <;> (first | (refine AL.gd ?_; (first | refine AL.d (AOp.call rfl rfl hS) ?_ | refine AL.d (AOp.call rfl rfl hAl) ?_)) | refine AL.gs ?_ | refine AL.gu ?_ | (refine AL.gx (fun hb => ?_) (fun hb => ?_) <;> first | (refine AL.gd ?_; (first | refine AL.d (AOp.call rfl rfl hS) ?_ | refine AL.d (AOp.call rfl rfl hAl) ?_)) | refine AL.gs ?_)) <;> refine AL.es 2 ?_ <;> refine AL.nil ?_) | refine AW.jt ?_ | refine AW.jf ?_ | refine AW.jj (fun hb => ?_) (fun hb => ?_) | refine AW.go ?_ | fail)
        all_goals first
          | exact AW.retv rfl ⟨rfl, rfl⟩
          | exact AW.retv rfl ⟨retB (by simp_all), rfl⟩
          | (exfalso; simp_all; done)
  · rw [decide_eq_false hfew] at hF
    obtain ⟨k, ar, nm, vars, args, kids⟩ := f
    refine Tri.enter 70 Tryd.func4 rfl rfl rfl rfl fun Fr w0 => ?_
    repeat' (first | (refine AW.r 0 ?_ <;> (first | refine AL.d (AOp.box_ro (v := .st [.int .i64 k, .int .i64 ar, .str nm, strs vars, strs args, .sl (kids.map GFml.av)]) rfl rfl) ?_ | refine AL.d (AOp.box_ro rfl rfl) ?_) <;> refine AL.es 1 ?_ <;> refine AL.nil ?_) | (refine AW.r 1 ?_ <;> refine AL.es 1 ?_ <;> refine AL.d (AOp.lit (e := 25) (sz := 6) (by kernel_rfl) rfl rfl rfl (P_one rfl) (by decide)) ?_ <;> (first | refine AL.d (AOp.call rfl rfl hF) ?_ | refine AL.d (AOp.call rfl rfl hAl) ?_) <;> refine AL.es 1 ?_ <;> refine AL.nil ?_) | (refine AW.r 2 ?_ <;> (first | refine AL.d (AOp.call rfl rfl hF) ?_ | refine AL.d (AOp.call rfl rfl hAl) ?_) <;> refine AL.es 1 ?_ <;> refine AL.nil ?_) | refine AW.jt ?_ | refine AW.jf ?_ | refine AW.jj (fun hb => ?_) (fun hb => ?_) | refine AW.go ?_ | fail)
    exact AW.retv rfl ⟨rfl, rfl⟩
end Go.Proofs.YtlpndgodkkndnaaDoor
namespace Go.Proofs.YtlpndgodkkndnaaDoor
open Go.RowKit Go.SX
set_option maxRecDepth 100000
set_option maxHeartbeats 4000000
set_option linter.unusedVariables false
set_option linter.unusedSimpArgs false
def addV (out : List ByteArray) (v : ByteArray) : List ByteArray := if (out.any fun x => decide (x = v)) = true then out else out ++ [v]
def addVs : List ByteArray → List ByteArray → List ByteArray
  | [], out => out
  | v :: l, out => addVs l (addV out v)
mutual
def vrF : GFml → List ByteArray → List ByteArray
  | ⟨_, _, _, vars, args, kids⟩, out => vrL kids (addVs args (addVs vars out))
def vrL : List GFml → List ByteArray → List ByteArray
  | [], out => out
  | x :: l, out => vrL l (vrF x out)
end
theorem addVs_app : ∀ (a b out : List ByteArray), addVs (a ++ b) out = addVs b (addVs a out)
  | [], b, out => rfl
  | v :: a, b, out => by rw [List.cons_append, addVs, addVs, addVs_app a b]
theorem addV_len (out : List ByteArray) (v : ByteArray) : (addV out v).length ≤ out.length + 1 := by
  unfold addV; split <;> simp
theorem addVs_len : ∀ (l out : List ByteArray), (addVs l out).length ≤ out.length + l.length
  | [], out => by simp [addVs]
  | v :: l, out => by
    have h1 := addV_len out v
    have h2 := addVs_len l (addV out v)
    rw [addVs, List.length_cons]; omega
mutual
theorem vrF_len : ∀ (f : GFml) (out : List ByteArray), shsF f = true → (vrF f out).length ≤ out.length + 48 * ndF f
  | ⟨k, ar, nm, vars, args, kids⟩, out, h => by
    rw [shsF, Bool.and_eq_true] at h
    have h1 := shaped_vars h.2
    have h2 := shaped_args h.2
    have h3 := addVs_len vars out
    have h4 := addVs_len args (addVs vars out)
    have h5 := vrL_len kids (addVs args (addVs vars out)) h.1
    simp only at h1 h2
    rw [vrF, ndF]; omega
theorem vrL_len : ∀ (l : List GFml) (out : List ByteArray), shsFs l = true → (vrL l out).length ≤ out.length + 48 * ndFs l
  | [], out, h => by rw [vrL, ndFs]; omega
  | x :: l, out, h => by
    rw [shsFs, Bool.and_eq_true] at h
    have h1 := vrF_len x out h.1
    have h2 := vrL_len l (vrF x out) h.2
    rw [vrL, ndFs]; omega
end
def bmap (out : List ByteArray) : List (ByteArray × Bool) := out.map fun s => (s, true)
theorem setA_bmap (v : ByteArray) : ∀ out : List ByteArray, setA (bmap out) v true = bmap (addV out v)
  | [] => rfl
  | s :: out => by
    have ih := setA_bmap v out
    simp only [bmap, List.map_cons, setA] at ih ⊢
    unfold addV at ih ⊢
    by_cases e : v = s
    · subst e; simp
    · rw [if_neg e, ih, List.any_cons, decide_eq_false (fun h => e h.symm), Bool.false_or]
      split <;> simp
theorem n_vars : ∀ (N : Nat) (f : GFml) (out : List ByteArray) (mb : Nat) (g : MG), ndF f ≤ N → f.Ok →
    Tri Tryd.prog 40 [f.st, .map mb] [.map mb (kvW bav (bmap out)) g] (fun x h => x = .ret (.tup []) ∧ ∃ g', h = [.map mb (kvW bav (bmap (vrF f out))) g']) := by
  intro N
  induction N using Nat.strongRecOn with
  | _ N ih =>
    intro f out mb g hN ho
    have hnd := ndF_eq f
    obtain ⟨⟨_, _, _, q4, q5⟩, q6, q7⟩ := ho
    have l4 := q4.1
    have l5 := q5.1
    obtain ⟨k, ar, nm, vars, args, kids⟩ := f
    rw [vrF]
    simp only at *
    refine Tri.enter 41 Tryd.func40 rfl rfl rfl rfl fun Fr w0 => ?_
    repeat' (first | (refine AW.r 0 ?_ <;> (first | refine AL.d (AOp.box_ro (v := .st [.int .i64 k, .int .i64 ar, .str nm, strs vars, strs args, .sl (kids.map GFml.av)]) rfl rfl) ?_ | refine AL.d (AOp.box_ro rfl rfl) ?_) <;> refine AL.nil ?_) | (refine AW.r 1 ?_ <;> refine AL.es 4 ?_ <;> refine AL.d (AOp.lit (t := 86) (e := 22) (sz := 1) (by kernel_rfl) rfl rfl rfl (by simp [AV.size, strs]) (by decide)) ?_ <;> refine AL.es 2 ?_ <;> refine AL.nil ?_) | refine AW.jt ?_ | refine AW.jf ?_ | refine AW.jj (fun hb => ?_) (fun hb => ?_) | refine AW.go ?_ | fail)
    refine AW.prune [1, 2, 14, 15, 16] (AW.loop (fun mz af h => ∃ (i : Nat) (o : List ByteArray) (gg : MG), i ≤ 2 ∧ mz = 2 - i ∧ af = [(1, .map mb), (2, .at (.st [.int .i64 k, .int .i64 ar, .str nm, strs vars, strs args, .sl (kids.map GFml.av)])), (14, .sl ([vars, args].map strs)), (15, .int .i64 ([vars, args].map strs).length), (16, .int .i64 i)] ∧ h = [.map mb (kvW bav (bmap o)) gg] ∧ addVs args (addVs vars out) = ([vars, args].drop i).foldl (fun o l => addVs l o) o) 2 ⟨0, out, g, Nat.zero_le _, rfl, rfl, rfl, rfl⟩ ?_)
    rintro mz af h ⟨i, o, gg, hi, rfl, rfl, rfl, he⟩
    refine AW.seq ?_
    by_cases hlt : i < 2
    · obtain ⟨l, hl⟩ : ∃ l, [vars, args][i]? = some l := get_lt (by simpa using hlt)
      have hl' : ([vars, args].map strs)[((i : Nat) : Int).toNat]? = some (strs l) := map_get hl
      have hll : l.length ≤ 8796093022208 := by
        have := List.mem_of_getElem? hl
        simp only [List.mem_cons, List.not_mem_nil, or_false] at this
        rcases this with rfl | rfl <;> omega
      rw [drop_cons hl, List.foldl_cons] at he
      obtain ⟨I0, hI0⟩ : ∃ j : Nat, j = i := ⟨i, rfl⟩
      subst hI0
      have hlt0 := hlt
      have he0 := he
      repeat' (first | refine AW.re 2 1 ?_ | refine AW.jt ?_ | refine AW.jf ?_ | refine AW.jj (fun hb => ?_) (fun hb => ?_) | refine AW.go ?_ | fail)
      all_goals try (exfalso; simp only [decide_eq_true_eq, decide_eq_false_iff_not, List.length_map, List.length_cons, List.length_nil] at *; omega)
      repeat' (first | (refine AW.r 3 ?_ <;> refine AL.d (AOp.index_sl rfl rfl (by omega) hl' (by kernel_rfl) rfl) ?_ <;> refine AL.es 2 ?_ <;> refine AL.nil ?_) | refine AW.re 4 3 ?_ | refine AW.jt ?_ | refine AW.jf ?_ | refine AW.jj (fun hb => ?_) (fun hb => ?_) | refine AW.go ?_ | fail)
      refine AW.prune [1, 2, 14, 15, 16, 20, 21, 22] (AW.loop (fun mz af h => ∃ (i : Nat) (o2 : List ByteArray) (g2 : MG), i ≤ l.length ∧ mz = l.length - i ∧ af = [(1, .map mb), (2, .at (.st [.int .i64 k, .int .i64 ar, .str nm, strs vars, strs args, .sl (kids.map GFml.av)])), (14, .sl ([vars, args].map strs)), (15, .int .i64 ([vars, args].map strs).length), (16, .int .i64 I0), (20, strs l), (21, .int .i64 (l.map AV.str).length), (22, .int .i64 i)] ∧ h = [.map mb (kvW bav (bmap o2)) g2] ∧ addVs l o = addVs (l.drop i) o2) l.length ⟨0, o, gg, Nat.zero_le _, rfl, rfl, rfl, rfl⟩ ?_)
      rintro mz af h ⟨i, o2, g2, hi, rfl, rfl, rfl, he⟩
      refine AW.seq ?_
      by_cases hlt : i < l.length
      · obtain ⟨x, hx⟩ := get_lt hlt
        have hx' : (l.map AV.str)[((i : Nat) : Int).toNat]? = some (.str x) := map_get hx
        rw [drop_cons hx, addVs] at he
        repeat' (first | refine AW.re 5 1 ?_ | (refine AW.r 6 ?_ <;> refine AL.d (AOp.index_sl rfl rfl (by omega) hx' (by kernel_rfl) rfl) ?_ <;> refine AL.es 2 ?_ <;> refine AL.nil ?_) | (refine AW.r 7 ?_ <;> refine AL.es 2 ?_ <;> refine AL.setS 0 4 bav true rfl rfl rfl rfl (by kernel_rfl) ?_ <;> refine AL.nil ?_) | (refine AW.r 8 ?_ <;> refine AL.d AOp.ad ?_ <;> refine AL.es 1 ?_ <;> refine AL.nil ?_) | refine AW.jt ?_ | refine AW.jf ?_ | refine AW.jj (fun hb => ?_) (fun hb => ?_) | refine AW.go ?_ | fail)
        all_goals try (exfalso; simp only [decide_eq_true_eq, decide_eq_false_iff_not, List.length_map] at *; omega)
        rw [setA_bmap]
        refine AW.again_keep (l.length - (i + 1)) [1, 2, 14, 15, 16, 20, 21, 22] (by omega) ⟨i + 1, addV o2 x, _, hlt, rfl, rfl, rfl, ?_⟩
        exact he
      · rw [List.drop_eq_nil_of_le (by omega), addVs] at he
        repeat' (first | refine AW.re 5 1 ?_ | (refine AW.r 9 ?_ <;> refine AL.d AOp.ad ?_ <;> refine AL.es 1 ?_ <;> refine AL.nil ?_) | refine AW.jt ?_ | refine AW.jf ?_ | refine AW.jj (fun hb => ?_) (fun hb => ?_) | refine AW.go ?_ | fail)
        all_goals try (exfalso; simp only [decide_eq_true_eq, decide_eq_false_iff_not, List.length_map] at *; omega)
        rw [he] at he0
        exact AW.again_keep (2 - (I0 + 1)) [1, 2, 14, 15, 16] (by omega) ⟨I0 + 1, o2, g2, hlt0, rfl, rfl, rfl, he0⟩
    · have hi2 : i = 2 := by omega
      subst hi2
      have he : addVs args (addVs vars out) = o := he
      rw [he]
      clear hlt hi
      repeat' (first | refine AW.re 2 1 ?_ | refine AW.jt ?_ | refine AW.jf ?_ | refine AW.jj (fun hb => ?_) (fun hb => ?_) | refine AW.go ?_ | fail)
      all_goals try (exfalso; simp only [decide_eq_true_eq, decide_eq_false_iff_not, List.length_map, List.length_cons, List.length_nil] at *; omega)
      repeat' (first | refine AW.re 10 4 ?_ | refine AW.jt ?_ | refine AW.jf ?_ | refine AW.jj (fun hb => ?_) (fun hb => ?_) | refine AW.go ?_ | fail)
      refine AW.prune [1, 31, 32, 33] (AW.loop (fun mz af h => ∃ (i : Nat) (o2 : List ByteArray) (g2 : MG), i ≤ kids.length ∧ mz = kids.length - i ∧ af = [(1, .map mb), (31, .sl (kids.map GFml.av)), (32, .int .i64 (kids.map GFml.av).length), (33, .int .i64 i)] ∧ h = [.map mb (kvW bav (bmap o2)) g2] ∧ vrL kids o = vrL (kids.drop i) o2) kids.length ⟨0, o, gg, Nat.zero_le _, rfl, rfl, rfl, rfl⟩ ?_)
      rintro mz af h ⟨i, o2, g2, hi, rfl, rfl, rfl, he⟩
      refine AW.seq ?_
      by_cases hlt : i < kids.length
      · obtain ⟨x, hx⟩ := get_lt hlt
        have hx' : (kids.map GFml.av)[((i : Nat) : Int).toNat]? = some (x.st) := GFml.get hx
        have hxm := List.mem_of_getElem? hx
        have hnx := ndFs_mem hxm
        have hc := ih (ndF x) (by omega) x o2 mb g2 (Nat.le_refl _) (q7 x hxm)
        rw [drop_cons hx, vrL] at he
        repeat' (first | refine AW.re 11 1 ?_ | (refine AW.r 12 ?_ <;> refine AL.d (AOp.index_sl rfl rfl (by omega) hx' (by kernel_rfl) rfl) ?_ <;> refine AL.es 1 ?_ <;> refine AL.alloc_store (by kernel_rfl) rfl rfl rfl rfl ?_ <;> refine AL.nil ?_) | refine AW.jt ?_ | refine AW.jf ?_ | refine AW.jj (fun hb => ?_) (fun hb => ?_) | refine AW.go ?_ | fail)
        all_goals try (exfalso; simp only [decide_eq_true_eq, decide_eq_false_iff_not, List.length_map] at *; omega)
        repeat' (first | (refine AW.r 13 ?_ <;> refine AL.es 2 ?_ <;> (refine AL.callQ rfl rfl hc rfl ?_ ?_; rotate_left; rintro _ _ ⟨e, _⟩; cases e; rintro _ _ ⟨e, g3, rfl⟩; injection e with e; subst e) <;> refine AL.nil ?_) | refine AW.jt ?_ | refine AW.jf ?_ | refine AW.jj (fun hb => ?_) (fun hb => ?_) | refine AW.go ?_ | fail)
        repeat' (first | (refine AW.r 14 ?_ <;> refine AL.d AOp.ad ?_ <;> refine AL.es 1 ?_ <;> refine AL.nil ?_) | refine AW.jt ?_ | refine AW.jf ?_ | refine AW.jj (fun hb => ?_) (fun hb => ?_) | refine AW.go ?_ | fail)
        refine AW.again_keep (kids.length - (i + 1)) [1, 31, 32, 33] (by omega) ⟨i + 1, vrF x o2, g3, hlt, rfl, rfl, rfl, ?_⟩
        exact he
      · rw [List.drop_eq_nil_of_le (by omega), vrL] at he
        rw [he]
        repeat' (first | refine AW.re 11 1 ?_ | refine AW.jt ?_ | refine AW.jf ?_ | refine AW.jj (fun hb => ?_) (fun hb => ?_) | refine AW.go ?_ | fail)
        all_goals try (exfalso; simp only [decide_eq_true_eq, decide_eq_false_iff_not, List.length_map] at *; omega)
        exact AW.donev rfl ⟨rfl, _, rfl⟩
end Go.Proofs.YtlpndgodkkndnaaDoor
namespace Go.Proofs.YtlpndgodkkndnaaDoor
open Go.RowKit Go.SX
set_option maxRecDepth 100000
set_option maxHeartbeats 4000000
set_option linter.unusedVariables false
set_option linter.unusedSimpArgs false
theorem ref_vars : ∀ (N : Nat) (f : GFml) (out : List ByteArray) (tb : Option Nat) (tc : Nat), ndF f ≤ N → f.Ok → shsF f = true → out.length + 48 * ndF f ≤ 1000000 →
    Tri Tryd.prog 17 [f.st, .slt (out.map AV.str) tb tc] [.tail tb (out.map AV.str).length tc 1] (fun x h => ∃ b' c', x = .ret (.slt ((vrF f out).map AV.str) b' c') ∧ h = [.tail b' ((vrF f out).map AV.str).length c' 1]) := by
  intro N
  induction N using Nat.strongRecOn with
  | _ N ih =>
    intro f out tb tc hN ho hsh hlen
    have hnd := ndF_eq f
    obtain ⟨_, q6, q7⟩ := ho
    rw [shsF_eq, Bool.and_eq_true] at hsh
    have hv := shaped_vars hsh.2
    have ha := shaped_args hsh.2
    obtain ⟨k, ar, nm, vars, args, kids⟩ := f
    rw [vrF, ← addVs_app]
    simp only at *
    refine Tri.enter 50 Tryd.func17 rfl rfl rfl rfl fun Fr w0 => ?_
    repeat' (first | (refine AW.r 0 ?_ <;> (first | refine AL.d (AOp.box_ro (v := .st [.int .i64 k, .int .i64 ar, .str nm, strs vars, strs args, .sl (kids.map GFml.av)]) rfl rfl) ?_ | refine AL.d (AOp.box_ro rfl rfl) ?_) <;> refine AL.es 1 ?_ <;> refine AL.nil ?_) | refine AW.jt ?_ | refine AW.jf ?_ | refine AW.jj (fun hb => ?_) (fun hb => ?_) | refine AW.go ?_ | fail)
    repeat' (first | (refine AW.ex 1 [false] [0, 3, 6, 7] ?_ <;> refine AQE.hl ?_ <;> (first | refine AQE.p rfl AOp.fa ?_ | refine AQE.p rfl (AOp.fr 3) ?_) <;> refine AQE.p rfl AOp.la ?_ <;> refine AQE.hl ?_ <;> (first | refine AQE.p rfl AOp.fa ?_ | refine AQE.p rfl (AOp.fr 4) ?_) <;> refine AQE.p rfl AOp.la ?_ <;> refine AQE.hl ?_ <;> refine AQE.hl ?_ <;> refine AQE.nil ?_ <;> refine AX.o (n := 3) 0 ?_ <;> refine AXO.lit_own (e := 9) (sz := 1) (by kernel_rfl) rfl rfl rfl P_nil (by decide) fun b0 => ?_ <;> try dsimp only [List.set_cons_succ, List.set_cons_zero, List.getD_cons_succ, List.getD_cons_zero] <;> refine AX.o (n := 2) 3 ?_ <;> refine AXO.append (i := 0) (e := 9) (sz := 1) (bytes := 16) rfl rfl rfl rfl (by kernel_rfl) (by kernel_rfl) (by repeat' (first | exact P_nil | refine P_app ?_ ?_ | refine P_take ?_ | refine P_drop ?_ | exact P_map fun _ => rfl | exact P_one rfl | exact P_rep rfl)) (by repeat' (first | exact P_nil | refine P_app ?_ ?_ | refine P_take ?_ | refine P_drop ?_ | exact P_map fun _ => rfl | exact P_one rfl | exact P_rep rfl)) (ok_all (by repeat' (first | exact P_nil | refine P_app ?_ ?_ | refine P_take ?_ | refine P_drop ?_ | exact P_map fun _ => rfl | exact P_one rfl | exact P_rep rfl))) (by (try simp only [List.length_append, List.length_map, List.length_take, List.length_drop, List.length_cons, List.length_nil, List.length_replicate]); omega) (by (try simp only [List.length_append, List.length_map, List.length_take, List.length_drop, List.length_cons, List.length_nil, List.length_replicate]); omega) rfl fun b' c' => ?_ <;> try dsimp only [List.set_cons_succ, List.set_cons_zero, List.getD_cons_succ, List.getD_cons_zero] <;> refine AX.o (n := 1) 6 ?_ <;> refine AXO.append (i := 0) (e := 9) (sz := 1) (bytes := 16) rfl rfl rfl rfl (by kernel_rfl) (by kernel_rfl) (by repeat' (first | exact P_nil | refine P_app ?_ ?_ | refine P_take ?_ | refine P_drop ?_ | exact P_map fun _ => rfl | exact P_one rfl | exact P_rep rfl)) (by repeat' (first | exact P_nil | refine P_app ?_ ?_ | refine P_take ?_ | refine P_drop ?_ | exact P_map fun _ => rfl | exact P_one rfl | exact P_rep rfl)) (ok_all (by repeat' (first | exact P_nil | refine P_app ?_ ?_ | refine P_take ?_ | refine P_drop ?_ | exact P_map fun _ => rfl | exact P_one rfl | exact P_rep rfl))) (by (try simp only [List.length_append, List.length_map, List.length_take, List.length_drop, List.length_cons, List.length_nil, List.length_replicate]); omega) (by (try simp only [List.length_append, List.length_map, List.length_take, List.length_drop, List.length_cons, List.length_nil, List.length_replicate]); omega) rfl fun b' c' => ?_ <;> try dsimp only [List.set_cons_succ, List.set_cons_zero, List.getD_cons_succ, List.getD_cons_zero] <;> refine AX.o (n := 0) 7 ?_ <;> refine AXO.e ?_ <;> try dsimp only [List.set_cons_succ, List.set_cons_zero, List.getD_cons_succ, List.getD_cons_zero] <;> refine AX.done_keep [0, 1, 2, 4, 5, 6, 7, 15, 16, 17, 18, 19, 20, 21, 22, 23, 24, 25, 26, 27, 28, 29, 30, 31, 32, 33, 34, 35, 36, 37, 38, 39, 40, 41, 42, 43, 44, 45, 46, 47, 48, 49] ?_) | refine AW.jt ?_ | refine AW.jf ?_ | refine AW.jj (fun hb => ?_) (fun hb => ?_) | refine AW.go ?_ | fail)
    refine AW.as_sl 5 rfl ?_
    refine AW.drop (List.sublist_cons_self _ _) ?_
    have hm : (AV.sl ([] ++ vars.map AV.str ++ args.map AV.str)) = strs (vars ++ args) := by simp [strs]
    rw [hm]
    have hll : (vars ++ args).length ≤ 48 := by simp; omega
    generalize vars ++ args = l at *
    repeat' (first | refine AW.re 2 1 ?_ | refine AW.jt ?_ | refine AW.jf ?_ | refine AW.jj (fun hb => ?_) (fun hb => ?_) | refine AW.go ?_ | fail)
    refine AW.prune [1, 2, 5, 6] (AW.loop (fun mz af h => ∃ (i : Nat) (o : List ByteArray) (tt : Option Nat) (cc : Nat), i ≤ l.length ∧ mz = l.length - i ∧ af = [(1, .slt (o.map AV.str) tt cc), (2, .at (.st [.int .i64 k, .int .i64 ar, .str nm, strs vars, strs args, .sl (kids.map GFml.av)])), (5, strs l), (6, .int .i64 i)] ∧ h = [.tail tt (o.map AV.str).length cc 1] ∧ (addVs l out = addVs (l.drop i) o ∧ o.length ≤ out.length + i)) l.length ⟨0, out, tb, tc, Nat.zero_le _, rfl, rfl, rfl, ⟨rfl, by omega⟩⟩ ?_)
    rintro mz af h ⟨i, o, tt, cc, hi, rfl, rfl, rfl, he⟩
    refine AW.seq ?_
    by_cases hlt : i < l.length
    · obtain ⟨he, hol⟩ := he
      obtain ⟨x, hx⟩ := get_lt hlt
      have hx' : (l.map AV.str)[((i : Nat) : Int).toNat]? = some (.str x) := map_get hx
      have hM := ref_Among o x (by omega)
      rw [drop_cons hx, addVs] at he
      repeat' (first | refine AW.re 3 4 ?_ | refine AW.jt ?_ | refine AW.jf ?_ | refine AW.jj (fun hb => ?_) (fun hb => ?_) | refine AW.go ?_ | fail)
      all_goals try (exfalso; simp only [decide_eq_true_eq, decide_eq_false_iff_not, List.length_map] at *; omega)
      repeat' (first | (refine AW.r 5 ?_ <;> refine AL.es 3 ?_ <;> refine AL.d (AOp.index_sl rfl rfl (by omega) hx' (by kernel_rfl) rfl) ?_ <;> refine AL.es 1 ?_ <;> refine AL.d (AOp.call_slt rfl rfl rfl (hM.pure _)) ?_ <;> refine AL.es 1 ?_ <;> refine AL.nil ?_) | refine AW.jt ?_ | refine AW.jf ?_ | refine AW.jj (fun hb => ?_) (fun hb => ?_) | refine AW.go ?_ | fail)
      · have hq : ¬ (o.any fun y => decide (y = x)) = true := fun h => by rw [h] at hb; cases hb
        rw [addV, if_neg hq] at he
        have hm2 : (o ++ [x]).map AV.str = o.map AV.str ++ [.str x] := by simp
        repeat' (first | (refine AW.r 6 ?_ <;> refine AL.es 3 ?_ <;> refine AL.d (AOp.index_sl rfl rfl (by omega) hx' (by kernel_rfl) rfl) ?_ <;> refine AL.es 1 ?_ <;> refine AL.d (AOp.lit (e := 9) (sz := 1) (by kernel_rfl) rfl rfl rfl (P_one rfl) (by decide)) ?_ <;> refine AL.append (i := 0) (xs := o.map AV.str) (e := 9) (sz := 1) (bytes := 16) rfl rfl rfl rfl (by kernel_rfl) (by kernel_rfl) (P_map fun _ => rfl) (P_one rfl) rfl (by simp only [List.length_map]; simp; omega) (by simp only [List.length_map]; simp; omega) rfl fun b' c' => ?_ <;> refine AL.es 1 ?_ <;> refine AL.nil ?_) | (refine AW.r 4 ?_ <;> refine AL.es 1 ?_ <;> refine AL.d AOp.ad ?_ <;> refine AL.es 1 ?_ <;> refine AL.nil ?_) | refine AW.jt ?_ | refine AW.jf ?_ | refine AW.jj (fun hb => ?_) (fun hb => ?_) | refine AW.go ?_ | fail)
        rw [← hm2]
        refine AW.frame_eq rfl (show _ = [Own.tail b' ((o ++ [x]).map AV.str).length c' 1] from by rw [hm2]; rfl) ?_
        refine AW.again_keep (l.length - (i + 1)) [1, 2, 5, 6] (by omega) ⟨i + 1, o ++ [x], b', c', hlt, rfl, rfl, rfl, ?_⟩
        exact ⟨he, by simp; omega⟩
      · have hq : (o.any fun y => decide (y = x)) = true := by rw [Bool.not_eq_false'] at hb; exact hb
        rw [addV, if_pos hq] at he
        repeat' (first | (refine AW.r 4 ?_ <;> refine AL.es 1 ?_ <;> refine AL.d AOp.ad ?_ <;> refine AL.es 1 ?_ <;> refine AL.nil ?_) | refine AW.jt ?_ | refine AW.jf ?_ | refine AW.jj (fun hb => ?_) (fun hb => ?_) | refine AW.go ?_ | fail)
        refine AW.again_keep (l.length - (i + 1)) [1, 2, 5, 6] (by omega) ⟨i + 1, o, tt, cc, hlt, rfl, rfl, rfl, ?_⟩
        exact ⟨he, by omega⟩
    · obtain ⟨he, hol⟩ := he
      rw [List.drop_eq_nil_of_le (by omega), addVs] at he
      rw [he]
      repeat' (first | refine AW.re 3 4 ?_ | refine AW.re 7 1 ?_ | refine AW.jt ?_ | refine AW.jf ?_ | refine AW.jj (fun hb => ?_) (fun hb => ?_) | refine AW.go ?_ | fail)
      all_goals try (exfalso; simp only [decide_eq_true_eq, decide_eq_false_iff_not, List.length_map] at *; omega)
      refine AW.prune [1, 2, 7] (AW.loop (fun mz af h => ∃ (i : Nat) (o2 : List ByteArray) (t2 : Option Nat) (c2 : Nat), i ≤ kids.length ∧ mz = kids.length - i ∧ af = [(1, .slt (o2.map AV.str) t2 c2), (2, .at (.st [.int .i64 k, .int .i64 ar, .str nm, strs vars, strs args, .sl (kids.map GFml.av)])), (7, .int .i64 i)] ∧ h = [.tail t2 (o2.map AV.str).length c2 1] ∧ (vrL kids o = vrL (kids.drop i) o2 ∧ o2.length + 48 * ndFs (kids.drop i) ≤ 1000000)) kids.length ⟨0, o, tt, cc, Nat.zero_le _, rfl, rfl, rfl, ⟨rfl, by simp only [List.drop_zero]; omega⟩⟩ ?_)
      rintro mz af h ⟨i, o2, t2, c2, hi, rfl, rfl, rfl, he⟩
      refine AW.seq ?_
      by_cases hlt : i < kids.length
      · obtain ⟨he1, hle⟩ := he
        obtain ⟨x, hx⟩ := get_lt hlt
        have hx' : (kids.map GFml.av)[((i : Nat) : Int).toNat]? = some (x.st) := GFml.get hx
        have hxm := List.mem_of_getElem? hx
        have hnx := ndFs_mem hxm
        rw [drop_cons hx, vrL] at he1
        rw [drop_cons hx, ndFs] at hle
        have hsx := shsFs_mem hsh.1 hxm
        have hc := ih (ndF x) (by omega) x o2 t2 c2 (Nat.le_refl _) (q7 x hxm) hsx (by omega)
        have hvl := vrF_len x o2 hsx
        repeat' (first | refine AW.re 8 5 ?_ | refine AW.jt ?_ | refine AW.jf ?_ | refine AW.jj (fun hb => ?_) (fun hb => ?_) | refine AW.go ?_ | fail)
        all_goals try (exfalso; simp only [decide_eq_true_eq, decide_eq_false_iff_not, List.length_map] at *; omega)
        repeat' (first | (refine AW.r 10 ?_ <;> refine AL.es 3 ?_ <;> refine AL.d (AOp.index_sl rfl rfl (by omega) hx' (by kernel_rfl) rfl) ?_ <;> refine AL.es 2 ?_ <;> (refine AL.callQ rfl rfl hc rfl ?_ ?_; rotate_left; rintro _ _ ⟨_, _, e, _⟩; cases e; rintro _ _ ⟨b3, c3, e, rfl⟩; injection e with e; subst e) <;> refine AL.es 1 ?_ <;> refine AL.nil ?_) | refine AW.jt ?_ | refine AW.jf ?_ | refine AW.jj (fun hb => ?_) (fun hb => ?_) | refine AW.go ?_ | fail)
        repeat' (first | (refine AW.r 9 ?_ <;> refine AL.es 1 ?_ <;> refine AL.d AOp.ad ?_ <;> refine AL.es 1 ?_ <;> refine AL.nil ?_) | refine AW.jt ?_ | refine AW.jf ?_ | refine AW.jj (fun hb => ?_) (fun hb => ?_) | refine AW.go ?_ | fail)
        refine AW.again_keep (kids.length - (i + 1)) [1, 2, 7] (by omega) ⟨i + 1, vrF x o2, b3, c3, hlt, rfl, rfl, rfl, ?_⟩
        exact ⟨he1, by omega⟩
      · obtain ⟨he1, hle⟩ := he
        rw [List.drop_eq_nil_of_le (by omega), vrL] at he1
        rw [he1]
        repeat' (first | refine AW.re 8 5 ?_ | refine AW.re 11 2 ?_ | refine AW.jt ?_ | refine AW.jf ?_ | refine AW.jj (fun hb => ?_) (fun hb => ?_) | refine AW.go ?_ | fail)
        all_goals try (exfalso; simp only [decide_eq_true_eq, decide_eq_false_iff_not, List.length_map] at *; omega)
        exact AW.retv rfl ⟨_, _, rfl, rfl⟩
theorem ref_vars0 (f : GFml) (ho : f.Ok) (hs : shsF f = true) (hn : 48 * ndF f ≤ 1000000) : Tri Tryd.prog 17 [f.st, .val (.slice none 0 0)] [] (D (strs (vrF f [])) []) :=
  (Tri.of_nil ((ref_vars _ f [] none 0 (Nat.le_refl _) ho hs (by simpa using hn)).mono fun x h ⟨b, c, h1, h2⟩ => ⟨b, c, _, _, h1, h2⟩)).forget
theorem n_Width (f : GFml) (ho : f.Ok) : Tri Tryd.prog 19 [f.st] [] (D (.tup [.int .i64 (bif validF f then ((vrF f []).length : Int) else 0), .int .i64 (bif validF f then 0 else 1)]) []) := by
  have hv := f_Valid f ho
  have hV := fun mb => n_vars _ f [] mb ⟨[], 0⟩ (Nat.le_refl _) ho
  generalize vrF f [] = L at *
  generalize validF f = V at *
  obtain ⟨k, ar, nm, vars, args, kids⟩ := f
  cases V with
  | true =>
    rw [cond_true, cond_true]
    refine Tri.enter 14 Tryd.func19 rfl rfl rfl rfl fun Fr w0 => ?_
    repeat' (first | (refine AW.r 0 ?_ <;> (first | refine AL.d (AOp.box_ro (v := .st [.int .i64 k, .int .i64 ar, .str nm, strs vars, strs args, .sl (kids.map GFml.av)]) rfl rfl) ?_ | refine AL.d (AOp.box_ro rfl rfl) ?_) <;> refine AL.es 2 ?_ <;> refine AL.nil ?_) | (refine AW.r 1 ?_ <;> refine AL.es 1 ?_ <;> refine AL.d (AOp.call rfl rfl hv) ?_ <;> refine AL.es 1 ?_ <;> refine AL.nil ?_) | refine AW.jt ?_ | refine AW.jf ?_ | refine AW.jj (fun hb => ?_) (fun hb => ?_) | refine AW.go ?_ | fail)
    repeat' (first | (refine AW.r 3 ?_ <;> refine AL.makeMap rfl fun bm => ?_ <;> refine AL.es 1 ?_ <;> refine AL.nil ?_) | refine AW.jt ?_ | refine AW.jf ?_ | refine AW.jj (fun hb => ?_) (fun hb => ?_) | refine AW.go ?_ | fail)
    have hw := hV bm
    repeat' (first | (refine AW.r 4 ?_ <;> refine AL.es 2 ?_ <;> (refine AL.callQ rfl rfl hw rfl ?_ ?_; rotate_left; rintro _ _ ⟨e, _⟩; cases e; rintro _ _ ⟨e, g3, rfl⟩; injection e with e; subst e) <;> refine AL.nil ?_) | refine AW.jt ?_ | refine AW.jf ?_ | refine AW.jj (fun hb => ?_) (fun hb => ?_) | refine AW.go ?_ | fail)
    repeat' (first | (refine AW.r 5 ?_ <;> refine AL.es 1 ?_ <;> (first | refine AL.d (AOp.len_map (i := 0) (kd := .string) (e := 4) rfl rfl (by kernel_rfl)) ?_ | refine AL.d AOp.ln ?_) <;> refine AL.es 2 ?_ <;> refine AL.nil ?_) | refine AW.jt ?_ | refine AW.jf ?_ | refine AW.jj (fun hb => ?_) (fun hb => ?_) | refine AW.go ?_ | fail)
    refine AW.ret_drop rfl (List.nil_sublist _) ⟨?_, rfl⟩
    simp [kvW, bmap, ofConst]
  | false =>
    rw [cond_false, cond_false]
    refine Tri.enter 14 Tryd.func19 rfl rfl rfl rfl fun Fr w0 => ?_
    repeat' (first | (refine AW.r 0 ?_ <;> (first | refine AL.d (AOp.box_ro (v := .st [.int .i64 k, .int .i64 ar, .str nm, strs vars, strs args, .sl (kids.map GFml.av)]) rfl rfl) ?_ | refine AL.d (AOp.box_ro rfl rfl) ?_) <;> refine AL.es 2 ?_ <;> refine AL.nil ?_) | (refine AW.r 1 ?_ <;> refine AL.es 1 ?_ <;> refine AL.d (AOp.call rfl rfl hv) ?_ <;> refine AL.es 1 ?_ <;> refine AL.nil ?_) | refine AW.re 2 2 ?_ | refine AW.jt ?_ | refine AW.jf ?_ | refine AW.jj (fun hb => ?_) (fun hb => ?_) | refine AW.go ?_ | fail)
    exact AW.retv rfl ⟨rfl, rfl⟩
theorem n_First (f : GFml) (ho : f.Ok) : Tri Tryd.prog 20 [f.st] [] (D (.bool (validF f && plF f)) []) := by
  have hv := f_Valid f ho
  have hp := n_plain _ f (Nat.le_refl _) ho
  generalize validF f = V at *
  generalize plF f = L at *
  obtain ⟨k, ar, nm, vars, args, kids⟩ := f
  cases V with
  | true =>
    refine Tri.enter 9 Tryd.func20 rfl rfl rfl rfl fun Fr w0 => ?_
    repeat' (first | (refine AW.r 0 ?_ <;> (first | refine AL.d (AOp.box_ro (v := .st [.int .i64 k, .int .i64 ar, .str nm, strs vars, strs args, .sl (kids.map GFml.av)]) rfl rfl) ?_ | refine AL.d (AOp.box_ro rfl rfl) ?_) <;> refine AL.es 1 ?_ <;> refine AL.nil ?_) | (refine AW.r 1 ?_ <;> refine AL.es 1 ?_ <;> (first | refine AL.d (AOp.call rfl rfl hv) ?_ | refine AL.d (AOp.call rfl rfl hp) ?_) <;> refine AL.es 1 ?_ <;> (first | refine AL.es 1 ?_ | (refine AL.gx (fun hb => ?_) (fun hb => ?_) <;> refine AL.es 1 ?_)) <;> (first | (refine AL.gd ?_; (first | refine AL.d (AOp.call rfl rfl hv) ?_ | refine AL.d (AOp.call rfl rfl hp) ?_)) | refine AL.gs ?_ | refine AL.gu ?_) <;> refine AL.es 2 ?_ <;> refine AL.nil ?_) | refine AW.jt ?_ | refine AW.jf ?_ | refine AW.jj (fun hb => ?_) (fun hb => ?_) | refine AW.go ?_ | fail)
    exact AW.retv rfl ⟨rfl, rfl⟩
  | false =>
    refine Tri.enter 9 Tryd.func20 rfl rfl rfl rfl fun Fr w0 => ?_
    repeat' (first | (refine AW.r 0 ?_ <;> (first | refine AL.d (AOp.box_ro (v := .st [.int .i64 k, .int .i64 ar, .str nm, strs vars, strs args, .sl (kids.map GFml.av)]) rfl rfl) ?_ | refine AL.d (AOp.box_ro rfl rfl) ?_) <;> refine AL.es 1 ?_ <;> refine AL.nil ?_) | (refine AW.r 1 ?_ <;> refine AL.es 1 ?_ <;> refine AL.d (AOp.call rfl rfl hv) ?_ <;> refine AL.es 1 ?_ <;> (first | refine AL.es 1 ?_ | (refine AL.gx (fun hb => ?_) (fun hb => ?_) <;> refine AL.es 1 ?_)) <;> (first | (refine AL.gd ?_; refine AL.d (AOp.call rfl rfl hv) ?_) | refine AL.gs ?_ | refine AL.gu ?_) <;> refine AL.es 2 ?_ <;> refine AL.nil ?_) | refine AW.jt ?_ | refine AW.jf ?_ | refine AW.jj (fun hb => ?_) (fun hb => ?_) | refine AW.go ?_ | fail)
    exact AW.retv rfl ⟨rfl, rfl⟩
theorem law_NormRanks (f : GFml) (ho : f.Ok) : Tri Tryd.prog 5 [f.st] [] (D (.bool true) []) := by
  have hF := few_one 1500 (by omega) f ho
  have hAl := alive
  by_cases hfew : wFs 1500 [f] 0 ≤ 1500
  · rw [decide_eq_true hfew] at hF
    have hnd := few_nd hfew (by omega)
    have hV := ref_Valid f ho (by omega)
    have hR := fun h => ref_Rank _ f (Nat.le_refl _) ho (varOk_of f (validF_shs h)) (by omega)
    have hW := fun h => ref_vars0 f ho (validF_shs h) (by omega)
    have hI := ref_First _ f (Nat.le_refl _) ho
    have hr := n_Rank f ho (by omega)
    have hw := n_Width f ho
    have hi := n_First f ho
    have hfp := fun h => fi_pl f (validF_shs h)
    clear hnd hfew
    generalize vrF f [] = L at *
    generalize rkF f = ra at *
    generalize validF f = V at *
    generalize plF f = pl at *
    generalize fiF f = fi at *
    obtain ⟨k, ar, nm, vars, args, kids⟩ := f
    cases V with
    | false =>
      clear hR hW
      rw [cond_false, cond_false] at hr hw
      refine Tri.enter 62 Tryd.func5 rfl rfl rfl rfl fun Fr w0 => ?_
      repeat' (first | (refine AW.r 0 ?_ <;> (first | refine AL.d (AOp.box_ro (v := .st [.int .i64 k, .int .i64 ar, .str nm, strs vars, strs args, .sl (kids.map GFml.av)]) rfl rfl) ?_ | refine AL.d (AOp.box_ro rfl rfl) ?_) <;> refine AL.es 1 ?_ <;> refine AL.nil ?_) | (refine AW.r 1 ?_ <;> refine AL.es 1 ?_ <;> refine AL.d (AOp.lit (e := 25) (sz := 6) (by kernel_rfl) rfl rfl rfl (P_one rfl) (by decide)) ?_ <;> (first | refine AL.d (AOp.call rfl rfl hF) ?_ | refine AL.d (AOp.call rfl rfl hV) ?_ | refine AL.d (AOp.call rfl rfl hr) ?_ | refine AL.d (AOp.call rfl rfl hw) ?_) <;> refine AL.es 1 ?_ <;> refine AL.nil ?_) | refine AW.re 3 3 ?_ | refine AW.re 4 1 ?_ | (refine AW.r 5 ?_ <;> refine AL.es 1 ?_ <;> (first | refine AL.d (AOp.call rfl rfl hF) ?_ | refine AL.d (AOp.call rfl rfl hV) ?_ | refine AL.d (AOp.call rfl rfl hr) ?_ | refine AL.d (AOp.call rfl rfl hw) ?_) <;> refine AL.nil ?_) | (refine AW.r 7 ?_ <;> refine AL.es 1 ?_ <;> (first | refine AL.d (AOp.call rfl rfl hF) ?_ | refine AL.d (AOp.call rfl rfl hV) ?_ | refine AL.d (AOp.call rfl rfl hr) ?_ | refine AL.d (AOp.call rfl rfl hw) ?_) <;> refine AL.es 5 ?_ <;> refine AL.nil ?_) | (refine AW.r 8 ?_ <;> refine AL.es 1 ?_ <;> (first | refine AL.d (AOp.call rfl rfl hF) ?_ | refine AL.d (AOp.call rfl rfl hV) ?_ | refine AL.d (AOp.call rfl rfl hr) ?_ | refine AL.d (AOp.call rfl rfl hw) ?_) <;> refine AL.es 5 ?_ <;> refine AL.nil ?_) | refine AW.jt ?_ | refine AW.jf ?_ | refine AW.jj (fun hb => ?_) (fun hb => ?_) | refine AW.go ?_ | fail)
      repeat' (first | (refine AW.r 9 ?_ <;> refine AL.es 1 ?_ <;> (first | refine AL.d (AOp.call rfl rfl hi) ?_ | refine AL.d (AOp.call rfl rfl hAl) ?_) <;> refine AL.es 1 ?_ <;> (first | refine AL.e ?_ | refine AL.d AOp.be ?_) <;> refine AL.es 1 ?_ <;> (first | refine AL.es 5 ?_ | (refine AL.gx (fun hb => ?_) (fun hb => ?_) <;> refine AL.es 5 ?_)) <;> (first | refine AL.es 5 ?_ | (refine AL.gx (fun hb => ?_) (fun hb => ?_) <;> refine AL.es 5 ?_)) <;> (first | refine AL.es 5 ?_ | (refine AL.gx (fun hb => ?_) (fun hb => ?_) <;> refine AL.es 5 ?_)) <;> (first | refine AL.es 5 ?_ | (refine AL.gx (fun hb => ?_) (fun hb => ?_) <;> refine AL.es 5 ?_)) <;> (first | (refine AL.gd ?_; (first | refine AL.d (AOp.call rfl rfl hi) ?_ | refine AL.d (AOp.call rfl rfl hAl) ?_)) | refine AL.gs ?_ | refine AL.gu ?_ | (refine AL.gx (fun hb => ?_) (fun hb => ?_) <;> first | (refine AL.gd ?_; (first | refine AL.d (AOp.call rfl rfl hi) ?_ | refine AL.d (AOp.call rfl rfl hAl) ?_)) | refine AL.gs ?_)) <;> refine AL.es 2 ?_ <;> refine AL.nil ?_) | refine AW.jt ?_ | refine AW.jf ?_ | refine AW.jj (fun hb => ?_) (fun hb => ?_) | refine AW.go ?_ | fail)
      exact AW.retv rfl ⟨rfl, rfl⟩
    | true =>
      have hR' := hR rfl
      have hW' := hW rfl
      have hfp' : fi = pl := hfp rfl
      subst hfp'
      clear hR hW
      rw [cond_true, cond_true] at hr hw
      refine Tri.enter 62 Tryd.func5 rfl rfl rfl rfl fun Fr w0 => ?_
      repeat' (first | (refine AW.r 0 ?_ <;> (first | refine AL.d (AOp.box_ro (v := .st [.int .i64 k, .int .i64 ar, .str nm, strs vars, strs args, .sl (kids.map GFml.av)]) rfl rfl) ?_ | refine AL.d (AOp.box_ro rfl rfl) ?_) <;> refine AL.es 1 ?_ <;> refine AL.nil ?_) | (refine AW.r 1 ?_ <;> refine AL.es 1 ?_ <;> refine AL.d (AOp.lit (e := 25) (sz := 6) (by kernel_rfl) rfl rfl rfl (P_one rfl) (by decide)) ?_ <;> (first | refine AL.d (AOp.call rfl rfl hF) ?_ | refine AL.d (AOp.call rfl rfl hV) ?_) <;> refine AL.es 1 ?_ <;> refine AL.nil ?_) | refine AW.re 3 3 ?_ | refine AW.re 4 1 ?_ | (refine AW.r 5 ?_ <;> refine AL.es 1 ?_ <;> (first | refine AL.d (AOp.call rfl rfl hF) ?_ | refine AL.d (AOp.call rfl rfl hV) ?_) <;> refine AL.nil ?_) | refine AW.jt ?_ | refine AW.jf ?_ | refine AW.jj (fun hb => ?_) (fun hb => ?_) | refine AW.go ?_ | fail)
      repeat' (first | (refine AW.dq 6 ?_ <;> refine AQ.es 1 ?_ <;> (first | refine AQ.p rfl (AOp.call rfl rfl hR') ?_ | refine AQ.p rfl (AOp.call_nil2 rfl rfl hW') ?_ | refine AQ.p rfl (AOp.call rfl rfl hI) ?_) <;> refine AQ.es 1 ?_ <;> (first | refine AQ.p rfl (AOp.call rfl rfl hR') ?_ | refine AQ.p rfl (AOp.call_nil2 rfl rfl hW') ?_ | refine AQ.p rfl (AOp.call rfl rfl hI) ?_) <;> refine AQ.es 2 ?_ <;> (first | refine AQ.p rfl (AOp.call rfl rfl hR') ?_ | refine AQ.p rfl (AOp.call_nil2 rfl rfl hW') ?_ | refine AQ.p rfl (AOp.call rfl rfl hI) ?_) <;> refine AQ.es 4 ?_ <;> refine AQ.nil ?_) | refine AW.jt ?_ | refine AW.jf ?_ | refine AW.jj (fun hb => ?_) (fun hb => ?_) | refine AW.go ?_ | fail)
      repeat' (first | (refine AW.r 7 ?_ <;> refine AL.es 1 ?_ <;> (first | refine AL.d (AOp.call rfl rfl hr) ?_ | refine AL.d (AOp.call rfl rfl hw) ?_) <;> refine AL.es 5 ?_ <;> refine AL.nil ?_) | (refine AW.r 8 ?_ <;> refine AL.es 1 ?_ <;> (first | refine AL.d (AOp.call rfl rfl hr) ?_ | refine AL.d (AOp.call rfl rfl hw) ?_) <;> refine AL.es 5 ?_ <;> refine AL.nil ?_) | refine AW.jt ?_ | refine AW.jf ?_ | refine AW.jj (fun hb => ?_) (fun hb => ?_) | refine AW.go ?_ | fail)
      repeat' (first | (refine AW.r 9 ?_ <;> refine AL.es 1 ?_ <;> (first | refine AL.d (AOp.call rfl rfl hi) ?_ | refine AL.d (AOp.call rfl rfl hAl) ?_) <;> refine AL.es 1 ?_ <;> (first | refine AL.e ?_ | refine AL.d AOp.be ?_) <;> refine AL.es 1 ?_ <;> (first | refine AL.es 5 ?_ | (refine AL.gx (fun hb => ?_) (fun hb => ?_) <;> refine AL.es 5 ?_)) <;> (first | refine AL.es 5 ?_ | (refine AL.gx (fun hb => ?_) (fun hb => ?_) <;> refine AL.es 5 ?_)) <;> (first | refine AL.es 5 ?_ | (refine AL.gx (fun hb => ?_) (fun hb => ?_) <;> refine AL.es 5 ?_)) <;> (first | refine AL.es 5 ?_ | (refine AL.gx (fun hb => ?_) (fun hb => ?_) <;> refine AL.es 5 ?_)) <;> (first | (refine AL.gd ?_; (first | refine AL.d (AOp.call rfl rfl hi) ?_ | refine AL.d (AOp.call rfl rfl hAl) ?_)) | refine AL.gs ?_ | refine AL.gu ?_ | (refine AL.gx (fun hb => ?_) (fun hb => ?_) <;> first | (refine AL.gd ?_; (first | refine AL.d (AOp.call rfl rfl hi) ?_ | refine AL.d (AOp.call rfl rfl hAl) ?_)) | refine AL.gs ?_)) <;> refine AL.es 2 ?_ <;> refine AL.nil ?_) | refine AW.jt ?_ | refine AW.jf ?_ | refine AW.jj (fun hb => ?_) (fun hb => ?_) | refine AW.go ?_ | fail)
      all_goals first
        | exact AW.retv rfl ⟨rfl, rfl⟩
        | (exfalso; simp at hb; done)
  · rw [decide_eq_false hfew] at hF
    obtain ⟨k, ar, nm, vars, args, kids⟩ := f
    refine Tri.enter 62 Tryd.func5 rfl rfl rfl rfl fun Fr w0 => ?_
    repeat' (first | (refine AW.r 0 ?_ <;> (first | refine AL.d (AOp.box_ro (v := .st [.int .i64 k, .int .i64 ar, .str nm, strs vars, strs args, .sl (kids.map GFml.av)]) rfl rfl) ?_ | refine AL.d (AOp.box_ro rfl rfl) ?_) <;> refine AL.es 1 ?_ <;> refine AL.nil ?_) | (refine AW.r 1 ?_ <;> refine AL.es 1 ?_ <;> refine AL.d (AOp.lit (e := 25) (sz := 6) (by kernel_rfl) rfl rfl rfl (P_one rfl) (by decide)) ?_ <;> (first | refine AL.d (AOp.call rfl rfl hF) ?_ | refine AL.d (AOp.call rfl rfl hAl) ?_) <;> refine AL.es 1 ?_ <;> refine AL.nil ?_) | (refine AW.r 2 ?_ <;> (first | refine AL.d (AOp.call rfl rfl hF) ?_ | refine AL.d (AOp.call rfl rfl hAl) ?_) <;> refine AL.es 1 ?_ <;> refine AL.nil ?_) | refine AW.jt ?_ | refine AW.jf ?_ | refine AW.jj (fun hb => ?_) (fun hb => ?_) | refine AW.go ?_ | fail)
    exact AW.retv rfl ⟨rfl, rfl⟩
end Go.Proofs.YtlpndgodkkndnaaDoor
namespace Go.Proofs.YtlpndgodkkndnaaDoor
open Go.RowKit Go.SX
set_option maxRecDepth 100000
set_option maxHeartbeats 4000000
set_option linter.unusedVariables false
set_option linter.unusedSimpArgs false
def has (l : List ByteArray) (s : ByteArray) : Bool := l.any fun x => decide (x = s)
theorem Contains_has (xs : List ByteArray) (hl : xs.length ≤ 4611686018427387904) (s : ByteArray) : Tri Tryd.prog 64 [strs xs, .str s] [] (D (.bool (has xs s)) []) := by
  have h := Contains_str xs hl s
  rw [any_flip] at h
  exact h
theorem Among_has (xs : List ByteArray) (hl : xs.length ≤ 4611686018427387904) (s : ByteArray) : Tri Tryd.prog 26 [strs xs, .str s] [] (D (.bool (has xs s)) []) := ref_Among xs s hl
mutual
def cpF (a b : ByteArray) : GFml → Bool → Bool
  | ⟨_, _, _, vars, args, kids⟩, bd => bif bd && has args a then true else bif has vars a then false else cpL a b kids (bd || has vars b)
def cpL (a b : ByteArray) : List GFml → Bool → Bool
  | [], _ => false
  | x :: l, bd => cpF a b x bd || cpL a b l bd
end
theorem cpL_any (a b : ByteArray) (bd : Bool) : ∀ l : List GFml, cpL a b l bd = l.any fun x => cpF a b x bd
  | [] => rfl
  | x :: l => by rw [cpL, List.any_cons, cpL_any a b bd l]
theorem cap1 (a b : ByteArray) (bd : Bool) (x : GFml) {v : Bool} (hc : Tri Tryd.prog 43 [x.st, .str a, .str b, .bool bd] [] (D (.bool v) [])) : Tri Tryd.prog 69 [x.st, .at (.str a), .at (.str b), .at (.bool bd)] [] (D (.bool v) []) := by
  obtain ⟨k, ar, nm, vars, args, kids⟩ := x
  refine Tri.enter 11 Tryd.func69 rfl rfl rfl rfl fun Fr w0 => ?_
  repeat' (first | (refine AW.r 0 ?_ <;> (first | refine AL.d (AOp.box_ro (v := .st [.int .i64 k, .int .i64 ar, .str nm, strs vars, strs args, .sl (kids.map GFml.av)]) rfl rfl) ?_ | refine AL.d (AOp.box_ro rfl rfl) ?_) <;> refine AL.es 1 ?_ <;> refine AL.nil ?_) | (refine AW.r 1 ?_ <;> refine AL.es 4 ?_ <;> refine AL.d (AOp.call rfl rfl hc) ?_ <;> refine AL.es 1 ?_ <;> refine AL.nil ?_) | refine AW.jt ?_ | refine AW.jf ?_ | refine AW.jj (fun hb => ?_) (fun hb => ?_) | refine AW.go ?_ | fail)
  exact AW.retv rfl ⟨rfl, rfl⟩
theorem n_captures (a b : ByteArray) : ∀ (N : Nat) (f : GFml) (bd : Bool), ndF f ≤ N → f.Ok → Tri Tryd.prog 43 [f.st, .str a, .str b, .bool bd] [] (D (.bool (cpF a b f bd)) []) := by
  intro N
  induction N using Nat.strongRecOn with
  | _ N ih =>
    intro f bd hN ho
    have hnd := ndF_eq f
    obtain ⟨⟨_, _, _, q4, q5⟩, q6, q7⟩ := ho
    have l4 := q4.1
    have l5 := q5.1
    have hA := Contains_has f.Args (by omega) a
    have hVa := Contains_has f.Vars (by omega) a
    have hVb := Contains_has f.Vars (by omega) b
    have hK := fun bd => ContainsFunc_Fml f.Kids (by omega) 69 [.at (.str a), .at (.str b), .at (.bool bd)] (fun x => cpF a b x bd) fun x hx => cap1 a b bd x (ih (ndF x) (by have := ndFs_mem hx; omega) x bd (Nat.le_refl _) (q7 x hx))
    obtain ⟨k, ar, nm, vars, args, kids⟩ := f
    rw [cpF, cpL_any]
    simp only at *
    generalize has args a = HA at *
    generalize has vars a = HVa at *
    generalize has vars b = HVb at *
    refine Tri.enter 31 Tryd.func43 rfl rfl rfl rfl fun Fr w0 => ?_
    repeat' (first | (refine AW.r 0 ?_ <;> (first | refine AL.box (v := .bool bd) rfl rfl rfl fun r7 => ?_ | refine AL.d (AOp.box_ro (v := .st [.int .i64 k, .int .i64 ar, .str nm, strs vars, strs args, .sl (kids.map GFml.av)]) rfl rfl) ?_ | refine AL.d (AOp.box_ro (v := .str a) rfl rfl) ?_ | refine AL.d (AOp.box_ro (v := .str b) rfl rfl) ?_) <;> (first | refine AL.box (v := .bool bd) rfl rfl rfl fun r7 => ?_ | refine AL.d (AOp.box_ro (v := .st [.int .i64 k, .int .i64 ar, .str nm, strs vars, strs args, .sl (kids.map GFml.av)]) rfl rfl) ?_ | refine AL.d (AOp.box_ro (v := .str a) rfl rfl) ?_ | refine AL.d (AOp.box_ro (v := .str b) rfl rfl) ?_) <;> (first | refine AL.box (v := .bool bd) rfl rfl rfl fun r7 => ?_ | refine AL.d (AOp.box_ro (v := .st [.int .i64 k, .int .i64 ar, .str nm, strs vars, strs args, .sl (kids.map GFml.av)]) rfl rfl) ?_ | refine AL.d (AOp.box_ro (v := .str a) rfl rfl) ?_ | refine AL.d (AOp.box_ro (v := .str b) rfl rfl) ?_) <;> (first | refine AL.box (v := .bool bd) rfl rfl rfl fun r7 => ?_ | refine AL.d (AOp.box_ro (v := .st [.int .i64 k, .int .i64 ar, .str nm, strs vars, strs args, .sl (kids.map GFml.av)]) rfl rfl) ?_ | refine AL.d (AOp.box_ro (v := .str a) rfl rfl) ?_ | refine AL.d (AOp.box_ro (v := .str b) rfl rfl) ?_) <;> refine AL.es 1 ?_ <;> refine AL.nil ?_) | refine AW.jt ?_ | refine AW.jf ?_ | refine AW.jj (fun hb => ?_) (fun hb => ?_) | refine AW.go ?_ | fail)
    have hgo : ∀ (p q : Bool), Tri Tryd.prog 61 [.sl (kids.map GFml.av), .fn 69 [.at (.str a), .at (.str b), .at (.bool p)]] [] (D (.bool (kids.any fun x => cpF a b x p)) []) := fun p _ => hK p
    cases bd with
    | true =>
      cases HA with
      | true =>
        repeat' (first | (refine AW.r 1 ?_ <;> (first | refine AL.d AOp.la ?_ | refine AL.d (AOp.ll 0) ?_) <;> refine AL.es 1 ?_ <;> (first | (refine AL.gd ?_; (first | refine AL.d AOp.fa ?_ | refine AL.d (AOp.fr 4) ?_)) | refine AL.gs ?_ | refine AL.gu ?_ | (refine AL.gx (fun hb => ?_) (fun hb => ?_) <;> first | (refine AL.gd ?_; (first | refine AL.d AOp.fa ?_ | refine AL.d (AOp.fr 4) ?_)) | refine AL.gs ?_)) <;> (first | (refine AL.gd ?_; (first | refine AL.d AOp.la ?_ | refine AL.d (AOp.ll 0) ?_)) | refine AL.gs ?_ | refine AL.gu ?_) <;> (first | (refine AL.gd ?_; (first | refine AL.d AOp.la ?_ | refine AL.d (AOp.ll 0) ?_)) | refine AL.gs ?_ | refine AL.gu ?_) <;> (first | (refine AL.gd ?_; refine AL.d (AOp.call rfl rfl (hA.pure _)) ?_) | refine AL.gs ?_ | refine AL.gu ?_) <;> refine AL.es 1 ?_ <;> refine AL.nil ?_) | refine AW.re 2 1 ?_ | refine AW.jt ?_ | refine AW.jf ?_ | refine AW.jj (fun hb => ?_) (fun hb => ?_) | refine AW.go ?_ | fail)
        exact AW.ret_drop rfl (List.nil_sublist _) ⟨rfl, rfl⟩
      | false =>
        cases HVa with
        | true =>
          repeat' (first | (refine AW.r 1 ?_ <;> (first | refine AL.d AOp.la ?_ | refine AL.d (AOp.ll 0) ?_) <;> refine AL.es 1 ?_ <;> (first | (refine AL.gd ?_; (first | refine AL.d AOp.fa ?_ | refine AL.d (AOp.fr 4) ?_)) | refine AL.gs ?_ | refine AL.gu ?_ | (refine AL.gx (fun hb => ?_) (fun hb => ?_) <;> first | (refine AL.gd ?_; (first | refine AL.d AOp.fa ?_ | refine AL.d (AOp.fr 4) ?_)) | refine AL.gs ?_)) <;> (first | (refine AL.gd ?_; (first | refine AL.d AOp.la ?_ | refine AL.d (AOp.ll 0) ?_)) | refine AL.gs ?_ | refine AL.gu ?_) <;> (first | (refine AL.gd ?_; (first | refine AL.d AOp.la ?_ | refine AL.d (AOp.ll 0) ?_)) | refine AL.gs ?_ | refine AL.gu ?_) <;> (first | (refine AL.gd ?_; (first | refine AL.d (AOp.call rfl rfl (hA.pure _)) ?_ | refine AL.d (AOp.call rfl rfl (hVa.pure _)) ?_)) | refine AL.gs ?_ | refine AL.gu ?_) <;> refine AL.es 1 ?_ <;> refine AL.nil ?_) | (refine AW.r 3 ?_ <;> (first | refine AL.d AOp.fa ?_ | refine AL.d (AOp.fr 3) ?_) <;> (first | refine AL.d AOp.la ?_ | refine AL.d (AOp.ll 0) ?_) <;> (first | refine AL.d AOp.la ?_ | refine AL.d (AOp.ll 0) ?_) <;> (first | refine AL.d (AOp.call rfl rfl (hA.pure _)) ?_ | refine AL.d (AOp.call rfl rfl (hVa.pure _)) ?_) <;> refine AL.nil ?_) | refine AW.re 4 1 ?_ | refine AW.jt ?_ | refine AW.jf ?_ | refine AW.jj (fun hb => ?_) (fun hb => ?_) | refine AW.go ?_ | fail)
          exact AW.ret_drop rfl (List.nil_sublist _) ⟨rfl, rfl⟩
        | false =>
          repeat' (first | (refine AW.r 1 ?_ <;> (first | refine AL.d AOp.la ?_ | refine AL.d (AOp.ll 0) ?_) <;> refine AL.es 1 ?_ <;> (first | (refine AL.gd ?_; (first | refine AL.d AOp.fa ?_ | refine AL.d (AOp.fr 4) ?_)) | refine AL.gs ?_ | refine AL.gu ?_ | (refine AL.gx (fun hb => ?_) (fun hb => ?_) <;> first | (refine AL.gd ?_; (first | refine AL.d AOp.fa ?_ | refine AL.d (AOp.fr 4) ?_)) | refine AL.gs ?_)) <;> (first | (refine AL.gd ?_; (first | refine AL.d AOp.la ?_ | refine AL.d (AOp.ll 0) ?_)) | refine AL.gs ?_ | refine AL.gu ?_) <;> (first | (refine AL.gd ?_; (first | refine AL.d AOp.la ?_ | refine AL.d (AOp.ll 0) ?_)) | refine AL.gs ?_ | refine AL.gu ?_) <;> (first | (refine AL.gd ?_; (first | refine AL.d (AOp.call rfl rfl (hA.pure _)) ?_ | refine AL.d (AOp.call rfl rfl (hVa.pure _)) ?_)) | refine AL.gs ?_ | refine AL.gu ?_) <;> refine AL.es 1 ?_ <;> refine AL.nil ?_) | (refine AW.r 3 ?_ <;> (first | refine AL.d AOp.fa ?_ | refine AL.d (AOp.fr 3) ?_) <;> (first | refine AL.d AOp.la ?_ | refine AL.d (AOp.ll 0) ?_) <;> (first | refine AL.d AOp.la ?_ | refine AL.d (AOp.ll 0) ?_) <;> (first | refine AL.d (AOp.call rfl rfl (hA.pure _)) ?_ | refine AL.d (AOp.call rfl rfl (hVa.pure _)) ?_) <;> refine AL.nil ?_) | refine AW.jt ?_ | refine AW.jf ?_ | refine AW.jj (fun hb => ?_) (fun hb => ?_) | refine AW.go ?_ | fail)
          repeat' (first | (refine AW.r 5 ?_ <;> (first | refine AL.d AOp.la ?_ | refine AL.d (AOp.ll 0) ?_) <;> refine AL.es 1 ?_ <;> (first | (refine AL.gd ?_; (first | refine AL.d AOp.fa ?_ | refine AL.d (AOp.fr 3) ?_)) | refine AL.gs ?_ | refine AL.gu ?_ | (refine AL.gx (fun hb => ?_) (fun hb => ?_) <;> first | (refine AL.gd ?_; (first | refine AL.d AOp.fa ?_ | refine AL.d (AOp.fr 3) ?_)) | refine AL.gs ?_)) <;> (first | (refine AL.gd ?_; (first | refine AL.d AOp.la ?_ | refine AL.d (AOp.ll 0) ?_)) | refine AL.gs ?_ | refine AL.gu ?_) <;> (first | (refine AL.gd ?_; (first | refine AL.d AOp.la ?_ | refine AL.d (AOp.ll 0) ?_)) | refine AL.gs ?_ | refine AL.gu ?_) <;> (first | (refine AL.gd ?_; refine AL.d (AOp.call rfl rfl (hVb.pure _)) ?_) | refine AL.gs ?_ | refine AL.gu ?_) <;> refine AL.es 1 ?_ <;> refine AL.sl 0 ?_ <;> refine AL.nil ?_) | refine AW.jt ?_ | refine AW.jf ?_ | refine AW.jj (fun hb => ?_) (fun hb => ?_) | fail)
          refine AW.freeze 0 7 rfl rfl ?_
          have hk := hK true
          repeat' (first | (refine AW.r 6 ?_ <;> refine AL.es 3 ?_ <;> refine AL.d (AOp.call rfl rfl hk) ?_ <;> refine AL.es 1 ?_ <;> refine AL.nil ?_) | refine AW.jt ?_ | refine AW.jf ?_ | refine AW.jj (fun hb => ?_) (fun hb => ?_) | refine AW.go ?_ | fail)
          exact AW.retv rfl ⟨rfl, rfl⟩
    | false =>
      cases HVa with
      | true =>
        repeat' (first | (refine AW.r 1 ?_ <;> (first | refine AL.d AOp.la ?_ | refine AL.d (AOp.ll 0) ?_) <;> refine AL.es 1 ?_ <;> (first | (refine AL.gd ?_; (first | refine AL.d AOp.fa ?_ | refine AL.d (AOp.fr 4) ?_)) | refine AL.gs ?_ | refine AL.gu ?_ | (refine AL.gx (fun hb => ?_) (fun hb => ?_) <;> first | (refine AL.gd ?_; (first | refine AL.d AOp.fa ?_ | refine AL.d (AOp.fr 4) ?_)) | refine AL.gs ?_)) <;> (first | (refine AL.gd ?_; (first | refine AL.d AOp.la ?_ | refine AL.d (AOp.ll 0) ?_)) | refine AL.gs ?_ | refine AL.gu ?_) <;> (first | (refine AL.gd ?_; (first | refine AL.d AOp.la ?_ | refine AL.d (AOp.ll 0) ?_)) | refine AL.gs ?_ | refine AL.gu ?_) <;> (first | (refine AL.gd ?_; (first | refine AL.d (AOp.call rfl rfl (hVa.pure _)) ?_ | refine AL.d (AOp.call rfl rfl (hA.pure _)) ?_)) | refine AL.gs ?_ | refine AL.gu ?_) <;> refine AL.es 1 ?_ <;> refine AL.nil ?_) | (refine AW.r 3 ?_ <;> (first | refine AL.d AOp.fa ?_ | refine AL.d (AOp.fr 3) ?_) <;> (first | refine AL.d AOp.la ?_ | refine AL.d (AOp.ll 0) ?_) <;> (first | refine AL.d AOp.la ?_ | refine AL.d (AOp.ll 0) ?_) <;> (first | refine AL.d (AOp.call rfl rfl (hVa.pure _)) ?_ | refine AL.d (AOp.call rfl rfl (hA.pure _)) ?_) <;> refine AL.nil ?_) | refine AW.re 4 1 ?_ | refine AW.jt ?_ | refine AW.jf ?_ | refine AW.jj (fun hb => ?_) (fun hb => ?_) | refine AW.go ?_ | fail)
        exact AW.ret_drop rfl (List.nil_sublist _) ⟨rfl, rfl⟩
      | false =>
        have hk := hK (false || HVb)
        repeat' (first | (refine AW.r 1 ?_ <;> (first | refine AL.d AOp.la ?_ | refine AL.d (AOp.ll 0) ?_) <;> refine AL.es 1 ?_ <;> (first | (refine AL.gd ?_; (first | refine AL.d AOp.fa ?_ | refine AL.d (AOp.fr 4) ?_)) | refine AL.gs ?_ | refine AL.gu ?_ | (refine AL.gx (fun hb => ?_) (fun hb => ?_) <;> first | (refine AL.gd ?_; (first | refine AL.d AOp.fa ?_ | refine AL.d (AOp.fr 4) ?_)) | refine AL.gs ?_)) <;> (first | (refine AL.gd ?_; (first | refine AL.d AOp.la ?_ | refine AL.d (AOp.ll 0) ?_)) | refine AL.gs ?_ | refine AL.gu ?_) <;> (first | (refine AL.gd ?_; (first | refine AL.d AOp.la ?_ | refine AL.d (AOp.ll 0) ?_)) | refine AL.gs ?_ | refine AL.gu ?_) <;> (first | (refine AL.gd ?_; (first | refine AL.d (AOp.call rfl rfl (hVa.pure _)) ?_ | refine AL.d (AOp.call rfl rfl (hA.pure _)) ?_)) | refine AL.gs ?_ | refine AL.gu ?_) <;> refine AL.es 1 ?_ <;> refine AL.nil ?_) | (refine AW.r 3 ?_ <;> (first | refine AL.d AOp.fa ?_ | refine AL.d (AOp.fr 3) ?_) <;> (first | refine AL.d AOp.la ?_ | refine AL.d (AOp.ll 0) ?_) <;> (first | refine AL.d AOp.la ?_ | refine AL.d (AOp.ll 0) ?_) <;> (first | refine AL.d (AOp.call rfl rfl (hVa.pure _)) ?_ | refine AL.d (AOp.call rfl rfl (hA.pure _)) ?_) <;> refine AL.nil ?_) | refine AW.jt ?_ | refine AW.jf ?_ | refine AW.jj (fun hb => ?_) (fun hb => ?_) | refine AW.go ?_ | fail)
        repeat' (first | (refine AW.r 5 ?_ <;> (first | refine AL.d AOp.la ?_ | refine AL.d (AOp.ll 0) ?_) <;> refine AL.es 1 ?_ <;> (first | (refine AL.gd ?_; (first | refine AL.d AOp.fa ?_ | refine AL.d (AOp.fr 3) ?_)) | refine AL.gs ?_ | refine AL.gu ?_ | (refine AL.gx (fun hb => ?_) (fun hb => ?_) <;> first | (refine AL.gd ?_; (first | refine AL.d AOp.fa ?_ | refine AL.d (AOp.fr 3) ?_)) | refine AL.gs ?_)) <;> (first | (refine AL.gd ?_; (first | refine AL.d AOp.la ?_ | refine AL.d (AOp.ll 0) ?_)) | refine AL.gs ?_ | refine AL.gu ?_) <;> (first | (refine AL.gd ?_; (first | refine AL.d AOp.la ?_ | refine AL.d (AOp.ll 0) ?_)) | refine AL.gs ?_ | refine AL.gu ?_) <;> (first | (refine AL.gd ?_; refine AL.d (AOp.call rfl rfl (hVb.pure _)) ?_) | refine AL.gs ?_ | refine AL.gu ?_) <;> refine AL.es 1 ?_ <;> refine AL.sl 0 ?_ <;> refine AL.nil ?_) | refine AW.jt ?_ | refine AW.jf ?_ | refine AW.jj (fun hb => ?_) (fun hb => ?_) | fail)
        refine AW.freeze 0 7 rfl rfl ?_
        repeat' (first | (refine AW.r 6 ?_ <;> refine AL.es 3 ?_ <;> refine AL.d (AOp.call rfl rfl hk) ?_ <;> refine AL.es 1 ?_ <;> refine AL.nil ?_) | refine AW.jt ?_ | refine AW.jf ?_ | refine AW.jj (fun hb => ?_) (fun hb => ?_) | refine AW.go ?_ | fail)
        exact AW.retv rfl ⟨rfl, rfl⟩
theorem ref_captured (a b : ByteArray) : ∀ (N : Nat) (f : GFml) (bd : Bool), ndF f ≤ N → f.Ok → Tri Tryd.prog 46 [f.st, .str a, .str b, .bool bd] [] (D (.bool (cpF a b f bd)) []) := by
  intro N
  induction N using Nat.strongRecOn with
  | _ N ih =>
    intro f bd hN ho
    have hnd := ndF_eq f
    obtain ⟨⟨_, _, _, q4, q5⟩, q6, q7⟩ := ho
    have l4 := q4.1
    have l5 := q5.1
    have hA := Among_has f.Args (by omega) a
    have hVa := Among_has f.Vars (by omega) a
    have hVb := Among_has f.Vars (by omega) b
    obtain ⟨k, ar, nm, vars, args, kids⟩ := f
    rw [cpF]
    simp only at *
    generalize has args a = HA at *
    generalize has vars a = HVa at *
    generalize has vars b = HVb at *
    refine Tri.enter 43 Tryd.func46 rfl rfl rfl rfl fun Fr w0 => ?_
    repeat' (first | (refine AW.r 0 ?_ <;> (first | refine AL.d (AOp.box_ro (v := .st [.int .i64 k, .int .i64 ar, .str nm, strs vars, strs args, .sl (kids.map GFml.av)]) rfl rfl) ?_ | refine AL.d (AOp.box_ro rfl rfl) ?_) <;> refine AL.es 1 ?_ <;> refine AL.nil ?_) | refine AW.jt ?_ | refine AW.jf ?_ | refine AW.jj (fun hb => ?_) (fun hb => ?_) | refine AW.go ?_ | fail)
    refine AW.cut (fun af ah => ∃ v : Bool, af = [(1, .str a), (2, .str b), (3, .bool bd), (4, .at (.st [.int .i64 k, .int .i64 ar, .str nm, strs vars, strs args, .sl (kids.map GFml.av)])), (16, .bool v)] ∧ ah = [] ∧ v = (bd && HA)) ?_ ?_
    · cases bd with
      | true =>
        repeat' (first | (refine AW.r 1 ?_ <;> refine AL.es 2 ?_ <;> (first | refine AL.es 3 ?_ | (refine AL.gx (fun hb => ?_) (fun hb => ?_) <;> refine AL.es 3 ?_)) <;> (first | (refine AL.gd ?_; refine AL.d (AOp.call rfl rfl hA) ?_) | refine AL.gs ?_ | refine AL.gu ?_) <;> refine AL.es 1 ?_ <;> refine AL.nil ?_) | refine AW.jt ?_ | refine AW.jf ?_ | refine AW.jj (fun hb => ?_) (fun hb => ?_) | refine AW.go ?_ | fail)
        exact AW.meet [1, 2, 3, 4, 16] ⟨HA, rfl, rfl, rfl⟩
      | false =>
        repeat' (first | (refine AW.r 1 ?_ <;> refine AL.es 2 ?_ <;> (first | refine AL.es 3 ?_ | (refine AL.gx (fun hb => ?_) (fun hb => ?_) <;> refine AL.es 3 ?_)) <;> (first | (refine AL.gd ?_; refine AL.d (AOp.call rfl rfl hA) ?_) | refine AL.gs ?_ | refine AL.gu ?_) <;> refine AL.es 1 ?_ <;> refine AL.nil ?_) | refine AW.jt ?_ | refine AW.jf ?_ | refine AW.jj (fun hb => ?_) (fun hb => ?_) | refine AW.go ?_ | fail)
        exact AW.meet [1, 2, 3, 4, 16] ⟨false, rfl, rfl, rfl⟩
    rintro af ah ⟨v, rfl, rfl, hv⟩
    rw [← hv]
    cases v with
    | true =>
      repeat' (first | refine AW.re 2 1 ?_ | refine AW.jt ?_ | refine AW.jf ?_ | refine AW.jj (fun hb => ?_) (fun hb => ?_) | refine AW.go ?_ | fail)
      exact AW.retv rfl ⟨rfl, rfl⟩
    | false =>
    rw [cond_false]
    cases HVa with
    | true =>
      repeat' (first | (refine AW.r 3 ?_ <;> refine AL.es 3 ?_ <;> refine AL.d (AOp.call rfl rfl hVa) ?_ <;> refine AL.nil ?_) | refine AW.re 4 1 ?_ | refine AW.jt ?_ | refine AW.jf ?_ | refine AW.jj (fun hb => ?_) (fun hb => ?_) | refine AW.go ?_ | fail)
      exact AW.retv rfl ⟨rfl, rfl⟩
    | false =>
    rw [cond_false]
    repeat' (first | (refine AW.r 3 ?_ <;> refine AL.es 3 ?_ <;> refine AL.d (AOp.call rfl rfl hVa) ?_ <;> refine AL.nil ?_) | refine AW.re 5 1 ?_ | refine AW.jt ?_ | refine AW.jf ?_ | refine AW.jj (fun hb => ?_) (fun hb => ?_) | refine AW.go ?_ | fail)
    refine AW.prune [1, 2, 3, 4, 9] (AW.loop (fun mz af h => ∃ (i : Nat), i ≤ kids.length ∧ mz = kids.length - i ∧ af = [(1, .str a), (2, .str b), (3, .bool bd), (4, .at (.st [.int .i64 k, .int .i64 ar, .str nm, strs vars, strs args, .sl (kids.map GFml.av)])), (9, .int .i64 i)] ∧ h = [] ∧ cpL a b kids (bd || HVb) = cpL a b (kids.drop i) (bd || HVb)) kids.length ⟨0, Nat.zero_le _, rfl, rfl, rfl, rfl⟩ ?_)
    rintro mz af h ⟨i, hi, rfl, rfl, rfl, he⟩
    refine AW.seq ?_
    by_cases hlt : i < kids.length
    · obtain ⟨x, hx⟩ := get_lt hlt
      have hx' : (kids.map GFml.av)[((i : Nat) : Int).toNat]? = some (x.st) := GFml.get hx
      have hxm := List.mem_of_getElem? hx
      have hnx := ndFs_mem hxm
      have hc := ih (ndF x) (by omega) x (bd || HVb) (Nat.le_refl _) (q7 x hxm)
      rw [drop_cons hx, cpL] at he
      repeat' (first | refine AW.re 6 5 ?_ | refine AW.jt ?_ | refine AW.jf ?_ | refine AW.jj (fun hb => ?_) (fun hb => ?_) | refine AW.go ?_ | fail)
      all_goals try (exfalso; simp only [decide_eq_true_eq, decide_eq_false_iff_not, List.length_map] at *; omega)
      generalize hval : cpF a b x (bd || HVb) = cv at *
      cases bd with
      | true =>
        repeat' (first | (refine AW.dl 8 14 ?_ <;> refine AQ.es 3 ?_ <;> refine AQ.p rfl (AOp.index_sl rfl rfl (by omega) hx' (by kernel_rfl) rfl) ?_ <;> refine AQ.es 5 ?_ <;> (first | refine AQ.es 3 ?_ | (refine AQ.y (fun hb => ?_) (fun hb => ?_) <;> refine AQ.es 3 ?_)) <;> (first | refine AQ.gp rfl (AOp.call rfl rfl hVb) ?_ | refine AQ.gp rfl (AOp.call rfl rfl hc) ?_ | refine AQ.k ?_) <;> refine AQ.es 1 ?_ <;> refine AQ.nil ?_ <;> (first | refine AL.d (AOp.call rfl rfl hVb) ?_ | refine AL.d (AOp.call rfl rfl hc) ?_) <;> refine AL.nil ?_) | refine AW.jt ?_ | refine AW.jf ?_ | refine AW.jj (fun hb => ?_) (fun hb => ?_) | refine AW.go ?_ | fail)
        · repeat' (first | refine AW.re 9 1 ?_ | refine AW.jt ?_ | refine AW.jf ?_ | refine AW.jj (fun hb => ?_) (fun hb => ?_) | refine AW.go ?_ | fail)
          exact AW.retv rfl ⟨retB (by rw [he, hb]; rfl), rfl⟩
        · rw [hb, Bool.false_or] at he
          repeat' (first | (refine AW.r 7 ?_ <;> refine AL.es 1 ?_ <;> refine AL.d AOp.ad ?_ <;> refine AL.es 1 ?_ <;> refine AL.nil ?_) | refine AW.jt ?_ | refine AW.jf ?_ | refine AW.jj (fun hb => ?_) (fun hb => ?_) | refine AW.go ?_ | fail)
          refine AW.again_keep (kids.length - (i + 1)) [1, 2, 3, 4, 9] (by omega) ⟨i + 1, hlt, rfl, rfl, rfl, ?_⟩
          exact he
      | false =>
        repeat' (first | (refine AW.dl 8 14 ?_ <;> refine AQ.es 3 ?_ <;> refine AQ.p rfl (AOp.index_sl rfl rfl (by omega) hx' (by kernel_rfl) rfl) ?_ <;> refine AQ.es 5 ?_ <;> (first | refine AQ.es 3 ?_ | (refine AQ.y (fun hb => ?_) (fun hb => ?_) <;> refine AQ.es 3 ?_)) <;> (first | refine AQ.gp rfl (AOp.call rfl rfl hVb) ?_ | refine AQ.gp rfl (AOp.call rfl rfl hc) ?_ | refine AQ.k ?_) <;> refine AQ.es 1 ?_ <;> refine AQ.nil ?_ <;> (first | refine AL.d (AOp.call rfl rfl hVb) ?_ | refine AL.d (AOp.call rfl rfl hc) ?_) <;> refine AL.nil ?_) | refine AW.jt ?_ | refine AW.jf ?_ | refine AW.jj (fun hb => ?_) (fun hb => ?_) | refine AW.go ?_ | fail)
        · repeat' (first | refine AW.re 9 1 ?_ | refine AW.jt ?_ | refine AW.jf ?_ | refine AW.jj (fun hb => ?_) (fun hb => ?_) | refine AW.go ?_ | fail)
          exact AW.retv rfl ⟨retB (by rw [he, hb]; rfl), rfl⟩
        · rw [hb, Bool.false_or] at he
          repeat' (first | (refine AW.r 7 ?_ <;> refine AL.es 1 ?_ <;> refine AL.d AOp.ad ?_ <;> refine AL.es 1 ?_ <;> refine AL.nil ?_) | refine AW.jt ?_ | refine AW.jf ?_ | refine AW.jj (fun hb => ?_) (fun hb => ?_) | refine AW.go ?_ | fail)
          refine AW.again_keep (kids.length - (i + 1)) [1, 2, 3, 4, 9] (by omega) ⟨i + 1, hlt, rfl, rfl, rfl, ?_⟩
          exact he
    · rw [List.drop_eq_nil_of_le (by omega), cpL] at he
      rw [he]
      repeat' (first | refine AW.re 6 5 ?_ | refine AW.re 10 1 ?_ | refine AW.jt ?_ | refine AW.jf ?_ | refine AW.jj (fun hb => ?_) (fun hb => ?_) | refine AW.go ?_ | fail)
      all_goals try (exfalso; simp only [decide_eq_true_eq, decide_eq_false_iff_not, List.length_map] at *; omega)
      exact AW.retv rfl ⟨rfl, rfl⟩
end Go.Proofs.YtlpndgodkkndnaaDoor
namespace Go.Proofs.YtlpndgodkkndnaaDoor
open Go.RowKit Go.SX
set_option maxRecDepth 100000
set_option maxHeartbeats 4000000
set_option linter.unusedVariables false
set_option linter.unusedSimpArgs false
def rnV (M : List (ByteArray × ByteArray)) (v : ByteArray) : ByteArray := (lookA M v).getD v
theorem n_renamed (M : List (ByteArray × ByteArray)) (mb : Nat) (g : MG) (l : List ByteArray) (hl : l.length ≤ 8796093021952) :
    Tri Tryd.prog 71 [strs l, .map mb] [.map mb (kvW AV.str M) g] (D (strs (l.map (rnV M))) [.map mb (kvW AV.str M) g]) := by
  refine Tri.enter 30 Tryd.func71 rfl rfl rfl rfl fun Fr w0 => ?_
  repeat' (first | (refine AW.r 0 ?_ <;> (first | refine AL.d AOp.assign_nil ?_ | refine AL.e ?_) <;> refine AL.nil ?_) | (refine AW.r 1 ?_ <;> (first | refine AL.d AOp.assign_nil ?_ | refine AL.e ?_) <;> refine AL.nil ?_) | (refine AW.r 2 ?_ <;> (first | refine AL.d AOp.assign_nil ?_ | refine AL.e ?_) <;> refine AL.es 1 ?_ <;> (first | refine AL.d AOp.assign_nil ?_ | refine AL.e ?_) <;> refine AL.nil ?_) | refine AW.jt ?_ | refine AW.jf ?_ | refine AW.jj (fun hb => ?_) (fun hb => ?_) | refine AW.go ?_ | fail)
  refine AW.own_nil 1 ?_
  refine AW.prune [1, 5, 10, 11, 12] (AW.loop (fun mz af h => ∃ (i : Nat) (o : List ByteArray) (tt : Option Nat) (cc : Nat), i ≤ l.length ∧ mz = l.length - i ∧ af = [(1, .map mb), (5, .slt (o.map AV.str) tt cc), (10, strs l), (11, .int .i64 (l.map AV.str).length), (12, .int .i64 i)] ∧ h = [.tail tt (o.map AV.str).length cc 1, .map mb (kvW AV.str M) g] ∧ o = (l.take i).map (rnV M)) l.length ⟨0, [], none, 0, Nat.zero_le _, rfl, rfl, rfl, by simp⟩ ?_)
  rintro mz af h ⟨i, o, tt, cc, hi, rfl, rfl, rfl, he⟩
  refine AW.seq ?_
  by_cases hlt : i < l.length
  · obtain ⟨x, hx⟩ := get_lt hlt
    have hx' : (l.map AV.str)[((i : Nat) : Int).toNat]? = some (.str x) := map_get hx
    have hol : o.length ≤ 8796093021952 := by rw [he]; simp; omega
    have hm : (o ++ [rnV M x]).map AV.str = o.map AV.str ++ [.str (rnV M x)] := by simp
    repeat' (first | refine AW.re 3 1 ?_ | (refine AW.r 4 ?_ <;> refine AL.d (AOp.index_sl rfl rfl (by omega) hx' (by kernel_rfl) rfl) ?_ <;> refine AL.es 2 ?_ <;> refine AL.nil ?_) | refine AW.jt ?_ | refine AW.jf ?_ | refine AW.jj (fun hb => ?_) (fun hb => ?_) | refine AW.go ?_ | fail)
    all_goals try (exfalso; simp only [decide_eq_true_eq, decide_eq_false_iff_not, List.length_map] at *; omega)
    cases hL : lookA M x with
    | none =>
      have hr : rnV M x = x := by rw [rnV, hL]; rfl
      rw [hr] at hm
      repeat' (first | (refine AW.r 5 ?_ <;> refine AL.es 2 ?_ <;> refine AL.d (AOp.lookS_miss 1 9 (.string ⟨#[]⟩) (ok := true) hL rfl rfl rfl (by kernel_rfl) (by kernel_rfl)) ?_ <;> refine AL.es 5 ?_ <;> refine AL.nil ?_) | refine AW.re 6 1 ?_ | (refine AW.r 8 ?_ <;> refine AL.es 2 ?_ <;> refine AL.d (AOp.lit (e := 9) (sz := 1) (by kernel_rfl) rfl rfl rfl (P_one rfl) (by decide)) ?_ <;> refine AL.append (i := 0) (xs := o.map AV.str) (e := 9) (sz := 1) (bytes := 16) rfl rfl rfl rfl (by kernel_rfl) (by kernel_rfl) (P_map fun _ => rfl) (P_one rfl) rfl (by simp only [List.length_map]; simp; omega) (by simp only [List.length_map]; simp; omega) rfl fun b' c' => ?_ <;> refine AL.es 1 ?_ <;> refine AL.nil ?_) | (refine AW.r 9 ?_ <;> refine AL.d AOp.ad ?_ <;> refine AL.es 1 ?_ <;> refine AL.nil ?_) | refine AW.jt ?_ | refine AW.jf ?_ | refine AW.jj (fun hb => ?_) (fun hb => ?_) | refine AW.go ?_ | fail)
      rw [← hm]
      refine AW.frame_eq rfl (show _ = [Own.tail b' ((o ++ [x]).map AV.str).length c' 1, .map mb (kvW AV.str M) g] from by rw [hm]; rfl) ?_
      refine AW.again_keep (l.length - (i + 1)) [1, 5, 10, 11, 12] (by omega) ⟨i + 1, o ++ [x], b', c', hlt, rfl, rfl, rfl, ?_⟩
      rw [he, List.take_add_one, hx]; simp [hr]
    | some w =>
      have hr : rnV M x = w := by rw [rnV, hL]; rfl
      rw [hr] at hm
      repeat' (first | (refine AW.r 5 ?_ <;> refine AL.es 2 ?_ <;> refine AL.d (AOp.lookS_hit 1 9 (g := AV.str) (ok := true) hL rfl rfl rfl (by kernel_rfl)) ?_ <;> refine AL.es 5 ?_ <;> refine AL.nil ?_) | refine AW.re 6 1 ?_ | refine AW.re 7 2 ?_ | (refine AW.r 8 ?_ <;> refine AL.es 2 ?_ <;> refine AL.d (AOp.lit (e := 9) (sz := 1) (by kernel_rfl) rfl rfl rfl (P_one rfl) (by decide)) ?_ <;> refine AL.append (i := 0) (xs := o.map AV.str) (e := 9) (sz := 1) (bytes := 16) rfl rfl rfl rfl (by kernel_rfl) (by kernel_rfl) (P_map fun _ => rfl) (P_one rfl) rfl (by simp only [List.length_map]; simp; omega) (by simp only [List.length_map]; simp; omega) rfl fun b' c' => ?_ <;> refine AL.es 1 ?_ <;> refine AL.nil ?_) | (refine AW.r 9 ?_ <;> refine AL.d AOp.ad ?_ <;> refine AL.es 1 ?_ <;> refine AL.nil ?_) | refine AW.jt ?_ | refine AW.jf ?_ | refine AW.jj (fun hb => ?_) (fun hb => ?_) | refine AW.go ?_ | fail)
      rw [← hm]
      refine AW.frame_eq rfl (show _ = [Own.tail b' ((o ++ [w]).map AV.str).length c' 1, .map mb (kvW AV.str M) g] from by rw [hm]; rfl) ?_
      refine AW.again_keep (l.length - (i + 1)) [1, 5, 10, 11, 12] (by omega) ⟨i + 1, o ++ [w], b', c', hlt, rfl, rfl, rfl, ?_⟩
      rw [he, List.take_add_one, hx]; simp [hr]
  · have ho2 : o = l.map (rnV M) := by rw [he, List.take_of_length_le (by omega)]
    subst ho2
    repeat' (first | refine AW.re 3 1 ?_ | refine AW.jt ?_ | refine AW.jf ?_ | refine AW.jj (fun hb => ?_) (fun hb => ?_) | refine AW.go ?_ | fail)
    all_goals try (exfalso; simp only [decide_eq_true_eq, decide_eq_false_iff_not, List.length_map] at *; omega)
    refine AW.as_sl 5 rfl ?_
    repeat' (first | refine AW.re 10 2 ?_ | refine AW.jt ?_ | refine AW.jf ?_ | refine AW.jj (fun hb => ?_) (fun hb => ?_) | refine AW.go ?_ | fail)
    exact AW.ret_drop rfl (List.sublist_cons_self _ _) ⟨rfl, rfl⟩
theorem n_with0 (f : GFml) (ho : f.Ok) : Tri Tryd.prog 70 [f.st, nilS] [] (D (.st [.int .i64 f.Kind, .int .i64 f.Arity, .str f.Name, strs f.Vars, strs f.Args, nilS]) []) := by
  obtain ⟨⟨_, _, _, h4, h5⟩, h6, h7⟩ := ho
  have hv := Clone_str f.Vars (by have := h4.1; omega)
  have ha := Clone_str f.Args (by have := h5.1; omega)
  obtain ⟨k, ar, nm, vars, args, kids0⟩ := f
  simp only at *
  refine Tri.enter 16 Tryd.func70 rfl rfl rfl rfl fun Fr w0 => ?_
  repeat' (first | (refine AW.r 0 ?_ <;> refine AL.box rfl rfl rfl fun b => ?_ <;> refine AL.alloc_z (t := 25) zF (by kernel_rfl) rfl rfl fun r => ?_ <;> refine AL.nil ?_) | refine AW.jt ?_ | refine AW.jf ?_ | refine AW.jj (fun hb => ?_) (fun hb => ?_) | refine AW.go ?_ | fail)
  repeat' (first | (refine AW.ex 1 [false, true] [8, 10, 12] ?_ <;> (first | refine AQE.p rfl AOp.fa ?_ | refine AQE.p rfl (AOp.fr 3) ?_) <;> (first | refine AQE.p rfl AOp.la ?_ | refine AQE.p rfl (AOp.ll 0) ?_ | refine AQE.pe rfl (AOp.ll 0) ?_ | refine AQE.p rfl (AOp.ll 1) ?_ | refine AQE.pe rfl (AOp.ll 1) ?_) <;> (first | refine AQE.p rfl (AOp.call rfl rfl (hv.pure _)) ?_ | refine AQE.p rfl (AOp.call rfl rfl (ha.pure _)) ?_) <;> (first | refine AQE.p rfl AOp.fa ?_ | refine AQE.p rfl (AOp.fr 4) ?_) <;> (first | refine AQE.p rfl AOp.la ?_ | refine AQE.p rfl (AOp.ll 0) ?_ | refine AQE.pe rfl (AOp.ll 0) ?_ | refine AQE.p rfl (AOp.ll 1) ?_ | refine AQE.pe rfl (AOp.ll 1) ?_) <;> (first | refine AQE.p rfl (AOp.call rfl rfl (hv.pure _)) ?_ | refine AQE.p rfl (AOp.call rfl rfl (ha.pure _)) ?_) <;> refine AQE.e ?_ <;> (first | refine AQE.p rfl AOp.fa ?_ | refine AQE.p rfl (AOp.fr 3) ?_) <;> refine AQE.hl ?_ <;> (first | refine AQE.p rfl AOp.fa ?_ | refine AQE.p rfl (AOp.fr 4) ?_) <;> refine AQE.hl ?_ <;> (first | refine AQE.p rfl AOp.fa ?_ | refine AQE.p rfl (AOp.fr 5) ?_) <;> refine AQE.hl ?_ <;> refine AQE.nil ?_ <;> refine AX.o (n := 2) 8 ?_ <;> (first | refine AXO.sl 0 fun _ => ?_ | refine AXO.sl 1 fun _ => ?_) <;> try dsimp only [List.set_cons_succ, List.set_cons_zero, List.getD_cons_succ, List.getD_cons_zero] <;> refine AX.o (n := 1) 10 ?_ <;> (first | refine AXO.sl 0 fun _ => ?_ | refine AXO.sl 1 fun _ => ?_) <;> try dsimp only [List.set_cons_succ, List.set_cons_zero, List.getD_cons_succ, List.getD_cons_zero] <;> refine AX.o (n := 0) 12 ?_ <;> (first | refine AXO.sl 0 fun _ => ?_ | refine AXO.sl 1 fun _ => ?_) <;> try dsimp only [List.set_cons_succ, List.set_cons_zero, List.getD_cons_succ, List.getD_cons_zero] <;> refine AX.done_keep [0, 2, 4, 15, 25] ?_) | refine AW.jt ?_ | refine AW.jf ?_ | refine AW.jj (fun hb => ?_) (fun hb => ?_) | refine AW.go ?_ | fail)
  refine AW.prune [2, 4] ?_
  repeat' (first | (refine AW.r 2 ?_ <;> (first | refine AL.d AOp.la ?_ | refine AL.d (AOp.lw 0) ?_ | refine AL.d (AOp.lw 1) ?_) <;> (first | refine AL.sl 0 ?_ | refine AL.sl 1 ?_) <;> refine AL.nil ?_) | refine AW.jt ?_ | refine AW.jf ?_ | refine AW.jj (fun hb => ?_) (fun hb => ?_) | refine AW.go ?_ | fail)
  exact AW.retc (.cell 1 rfl rfl (by kernel_rfl) .nil) (List.nil_sublist _) ⟨rfl, rfl⟩
end Go.Proofs.YtlpndgodkkndnaaDoor
namespace Go.Proofs.YtlpndgodkkndnaaDoor
open Go.RowKit Go.SX
set_option maxRecDepth 100000
set_option maxHeartbeats 4000000
set_option linter.unusedVariables false
set_option linter.unusedSimpArgs false
abbrev SP := Option (ByteArray × ByteArray)
def SP.m (o : SP) : List (ByteArray × ByteArray) := o.toList
def SP.flt (o : SP) (vars : List ByteArray) : SP := match o with | some p => if has vars p.1 = true then none else some p | none => none
mutual
def rnG : SP → GFml → GFml
  | o, ⟨k, ar, nm, vars, args, kids⟩ => ⟨k, ar, nm, vars, args.map (rnV o.m), rnGL (o.flt vars) kids⟩
def rnGL : SP → List GFml → List GFml
  | _, [] => []
  | o, x :: l => rnG o x :: rnGL o l
end
theorem rnGL_map (o : SP) : ∀ l : List GFml, rnGL o l = l.map (rnG o)
  | [] => by rw [rnGL]; rfl
  | x :: l => by rw [rnGL, rnGL_map o l]; rfl
theorem wk_nil : Wk (.val (.slice none 0 0)) (.slt [] none 0) := fun S w cs h => by
  simp only [RelC] at h ⊢
  exact ⟨by rw [h]; rfl, by simp, by simp, by simp⟩
theorem n_rename : ∀ (N : Nat) (f : GFml) (o : SP) (mb : Nat) (g : MG), ndF f ≤ N → f.Ok →
    Tri Tryd.prog 44 [f.st, .map mb] [.map mb (kvW AV.str o.m) g] (D (rnG o f).st [.map mb (kvW AV.str o.m) g]) := by
  intro N
  induction N using Nat.strongRecOn with
  | _ N ih =>
    intro f o mb g hN ho
    have hnd := ndF_eq f
    have hW := n_with0 f ho
    obtain ⟨⟨_, _, _, q4, q5⟩, q6, q7⟩ := ho
    have l4 := q4.1
    have l5 := q5.1
    have hA := n_renamed o.m mb g f.Args (by omega)
    have hC := fun s => Contains_has f.Vars (by omega) s
    obtain ⟨k, ar, nm, vars, args, kids⟩ := f
    rw [rnG]
    simp only at *
    refine Tri.enter 51 Tryd.func44 rfl rfl rfl rfl fun Fr w0 => ?_
    repeat' (first | (refine AW.r 0 ?_ <;> (first | refine AL.d (AOp.box_ro (v := .st [.int .i64 k, .int .i64 ar, .str nm, strs vars, strs args, .sl (kids.map GFml.av)]) rfl rfl) ?_ | refine AL.d (AOp.box_ro rfl rfl) ?_) <;> refine AL.alloc_z (t := 25) zF (by kernel_rfl) rfl rfl fun r4 => ?_ <;> refine AL.nil ?_) | refine AW.jt ?_ | refine AW.jf ?_ | refine AW.jj (fun hb => ?_) (fun hb => ?_) | refine AW.go ?_ | fail)
    repeat' (first | (refine AW.r 1 ?_ <;> (first | refine AL.d AOp.la ?_ | refine AL.d (AOp.lw 0) ?_) <;> refine AL.d (AOp.call_nil2 rfl rfl (hW.pure _)) ?_ <;> refine AL.alloc_z (t := 25) zF (by kernel_rfl) rfl rfl fun r5 => ?_ <;> refine AL.sl 0 ?_ <;> refine AL.nil ?_) | refine AW.jt ?_ | refine AW.jf ?_ | refine AW.jj (fun hb => ?_) (fun hb => ?_) | refine AW.go ?_ | fail)
    refine AW.perm (b := [.map mb (kvW AV.str o.m) g, .box r5 (.st [.int .i64 k, .int .i64 ar, .str nm, strs vars, strs args, nilS]), .box r4 zF]) ((List.perm_append_comm (l₁ := [_, _]) (l₂ := [_]))) ?_
    refine AW.prune [1, 2, 4, 5] ?_
    have hA' : Tri Tryd.prog 71 [strs args, .map mb] [.map mb (kvW AV.str o.m) g, .box r5 (.st [.int .i64 k, .int .i64 ar, .str nm, strs vars, strs args, nilS]), .box r4 zF] (D (strs (args.map (rnV o.m))) [.map mb (kvW AV.str o.m) g, .box r5 (.st [.int .i64 k, .int .i64 ar, .str nm, strs vars, strs args, nilS]), .box r4 zF]) := Tri.frameD (ah := [_, _, _]) [true] hA
    repeat' (first | (refine AW.r 2 ?_ <;> (first | refine AL.d AOp.fa ?_ | refine AL.d (AOp.fr 4) ?_) <;> (first | refine AL.d AOp.la ?_ | refine AL.d (AOp.ll 0) ?_ | refine AL.d (AOp.ll 1) ?_ | refine AL.d (AOp.ll 2) ?_) <;> refine AL.es 1 ?_ <;> refine AL.d (AOp.call rfl rfl hA') ?_ <;> (first | refine AL.d AOp.fa ?_ | refine AL.d (AOp.fr 4) ?_) <;> (first | refine AL.sl 0 ?_ | refine AL.sl 1 ?_ | refine AL.sl 2 ?_) <;> refine AL.nil ?_) | refine AW.jt ?_ | refine AW.jf ?_ | refine AW.jj (fun hb => ?_) (fun hb => ?_) | refine AW.go ?_ | fail)
    generalize hargs2 : args.map (rnV o.m) = args2 at *
    repeat' (first | (refine AW.r 3 ?_ <;> refine AL.makeMap rfl fun m6 => ?_ <;> refine AL.es 1 ?_ <;> refine AL.nil ?_) | refine AW.jt ?_ | refine AW.jf ?_ | refine AW.jj (fun hb => ?_) (fun hb => ?_) | refine AW.go ?_ | fail)
    repeat' (first | (refine AW.r 4 ?_ <;> refine AL.es 1 ?_ <;> refine AL.range 1 9 .string rfl rfl (by kernel_rfl) rfl fun it => ?_ <;> refine AL.nil ?_) | refine AW.jt ?_ | refine AW.jf ?_ | refine AW.jj (fun hb => ?_) (fun hb => ?_) | refine AW.go ?_ | fail)
    refine AW.prune [1, 2, 4, 5, 6, 20] (AW.loop (fun m af h => ∃ (idx : List Nat) (q : SP) (g6 : MG), af = [(1, .map mb), (2, .at (.st [.int .i64 k, .int .i64 ar, .str nm, strs vars, strs args, .sl (kids.map GFml.av)])), (4, .ref r4 0), (5, .ref r5 0), (6, .map m6), (20, .ref it 0)] ∧ h = [.iter it mb g.clk (seenOf g idx), .map m6 (kvW AV.str (SP.m q)) g6, .map mb (kvW AV.str o.m) g, .box r5 (.st [.int .i64 k, .int .i64 ar, .str nm, strs vars, strs args2, nilS]), .box r4 zF] ∧ m = o.m.length - idx.length ∧ ((idx = [] ∧ q = none) ∨ (idx = [0] ∧ o ≠ none ∧ q = o.flt vars))) o.m.length ⟨[], none, ⟨[], 0⟩, rfl, rfl, rfl, .inl ⟨rfl, rfl⟩⟩ ?_)
    rintro m af h ⟨idx, q, g6, rfl, rfl, rfl, hq⟩
    refine AW.seq ?_
    have hbd : ∀ j ∈ idx, j < (kvW AV.str o.m).length := by
      rcases hq with ⟨rfl, _⟩ | ⟨rfl, ho, _⟩
      · intro j hj; cases hj
      · intro j hj
        rw [List.mem_singleton.1 hj]
        cases o with
        | none => exact (ho rfl).elim
        | some p => simp [kvW, SP.m]
    repeat' (first | (refine AW.r 5 ?_ <;> refine AL.next 2 0 idx rfl rfl rfl hbd rfl (fun hall => ?_) (fun j key v hk1 hk2 => ?_) <;> refine AL.es 1 ?_ <;> refine AL.nil ?_) | refine AW.jt ?_ | refine AW.jf ?_ | refine AW.jj (fun hb => ?_) (fun hb => ?_) | refine AW.go ?_ | fail)
    · have hqe : q = o.flt vars := by
        rcases hq with ⟨rfl, rfl⟩ | ⟨_, _, h⟩
        · cases o with
          | none => rfl
          | some p => have := hall 0 (by simp [kvW, SP.m]); cases this
        · exact h
      subst hqe
      generalize o.flt vars = q at *
      refine AW.perm (b := [.box r5 (.st [.int .i64 k, .int .i64 ar, .str nm, strs vars, strs args2, nilS]), .iter it mb g.clk (seenOf g idx), .map m6 (kvW AV.str (SP.m q)) g6, .map mb (kvW AV.str o.m) g, .box r4 zF]) (List.perm_middle (l₁ := [_, _, _])) ?_
      refine AW.drop (ah' := [.box r5 (.st [.int .i64 k, .int .i64 ar, .str nm, strs vars, strs args2, nilS]), .map m6 (kvW AV.str (SP.m q)) g6, .map mb (kvW AV.str o.m) g, .box r4 zF]) ((List.sublist_cons_self _ _).cons_cons _) ?_
      refine AW.weak_box 0 (.st [.int .i64 k, .int .i64 ar, .str nm, strs vars, strs args2, .slt [] none 0]) rfl (.st (.cons (.refl _) (.cons (.refl _) (.cons (.refl _) (.cons (.refl _) (.cons (.refl _) (.cons wk_nil .nil))))))) ?_
      refine AW.own_nil 6 ?_
      repeat' (first | refine AW.re 9 4 ?_ | refine AW.jt ?_ | refine AW.jf ?_ | refine AW.jj (fun hb => ?_) (fun hb => ?_) | refine AW.go ?_ | fail)
      refine AW.prune [4, 5, 6, 35, 36, 37] (AW.loop (fun mz af h => ∃ (i : Nat) (oo : List GFml) (tt : Option Nat) (cc : Nat), i ≤ kids.length ∧ mz = kids.length - i ∧ af = [(4, .ref r4 0), (5, .ref r5 0), (6, .map m6), (35, .sl (kids.map GFml.av)), (36, .int .i64 (kids.map GFml.av).length), (37, .int .i64 i)] ∧ h = [.tail tt (oo.map GFml.av).length cc 6, .box r5 (.st [.int .i64 k, .int .i64 ar, .str nm, strs vars, strs args2, .slt (oo.map GFml.av) tt cc]), .map m6 (kvW AV.str (SP.m q)) g6, .map mb (kvW AV.str o.m) g, .box r4 zF] ∧ oo = (kids.take i).map (rnG q)) kids.length ⟨0, [], none, 0, Nat.zero_le _, rfl, rfl, rfl, by simp⟩ ?_)
      rintro mz af h ⟨i, oo, tt, cc, hi, rfl, rfl, rfl, he⟩
      refine AW.seq ?_
      by_cases hlt : i < kids.length
      · obtain ⟨x, hx⟩ := get_lt hlt
        have hx' : (kids.map GFml.av)[((i : Nat) : Int).toNat]? = some (x.st) := GFml.get hx
        have hxm := List.mem_of_getElem? hx
        have hnx := ndFs_mem hxm
        have hc := Tri.frameD (ah := [Own.map m6 (kvW AV.str (SP.m q)) g6, .map mb (kvW AV.str o.m) g, .box r4 zF]) [true] (ih (ndF x) (by omega) x q m6 g6 (Nat.le_refl _) (q7 x hxm))
        have hol : oo.length ≤ 1353245080300 := by rw [he]; simp; omega
        have hm : (oo ++ [rnG q x]).map GFml.av = oo.map GFml.av ++ [(rnG q x).st] := by simp [GFml.av_eq]
        repeat' (first | refine AW.re 10 1 ?_ | (refine AW.r 11 ?_ <;> refine AL.d (AOp.index_sl rfl rfl (by omega) hx' (by kernel_rfl) rfl) ?_ <;> refine AL.es 1 ?_ <;> refine AL.alloc_store (by kernel_rfl) rfl rfl rfl rfl ?_ <;> refine AL.nil ?_) | refine AW.jt ?_ | refine AW.jf ?_ | refine AW.jj (fun hb => ?_) (fun hb => ?_) | refine AW.go ?_ | fail)
        all_goals try (exfalso; simp only [decide_eq_true_eq, decide_eq_false_iff_not, List.length_map] at *; omega)
        repeat' (first | (refine AW.ex 12 [true, true] [6, 8] ?_ <;> (first | refine AQE.p rfl AOp.fa ?_ | refine AQE.p rfl (AOp.fr 5) ?_) <;> (first | refine AQE.p rfl AOp.la ?_ | refine AQE.p rfl (AOp.ll 0) ?_ | refine AQE.pe rfl (AOp.ll 0) ?_ | refine AQE.p rfl (AOp.ll 1) ?_ | refine AQE.pe rfl (AOp.ll 1) ?_ | refine AQE.p rfl (AOp.ll 2) ?_ | refine AQE.pe rfl (AOp.ll 2) ?_) <;> (first | refine AQE.p rfl AOp.la ?_ | refine AQE.p rfl (AOp.lw 0) ?_ | refine AQE.pe rfl (AOp.lw 0) ?_ | refine AQE.p rfl (AOp.lw 1) ?_ | refine AQE.pe rfl (AOp.lw 1) ?_ | refine AQE.p rfl (AOp.lw 2) ?_ | refine AQE.pe rfl (AOp.lw 2) ?_) <;> refine AQE.e ?_ <;> refine AQE.p rfl (AOp.call rfl rfl hc) ?_ <;> refine AQE.p rfl (AOp.lit (e := 25) (sz := 6) (by kernel_rfl) rfl rfl rfl (P_one rfl) (by decide)) ?_ <;> refine AQE.hl ?_ <;> (first | refine AQE.p rfl AOp.fa ?_ | refine AQE.p rfl (AOp.fr 5) ?_) <;> refine AQE.hl ?_ <;> refine AQE.nil ?_ <;> refine AX.o (n := 1) 6 ?_ <;> refine AXO.append (i := 0) (xs := oo.map GFml.av) (e := 25) (sz := 6) (bytes := 104) rfl rfl rfl rfl (by kernel_rfl) (by kernel_rfl) (P_map GFml.size_av) (P_one rfl) rfl (by simp only [List.length_map]; simp; omega) (by simp only [List.length_map]; simp; omega) rfl fun b' c' => ?_ <;> try dsimp only [List.set_cons_succ, List.set_cons_zero, List.getD_cons_succ, List.getD_cons_zero] <;> refine AX.o (n := 0) 8 ?_ <;> (first | refine AXO.sl 0 fun _ => ?_ | refine AXO.sl 1 fun _ => ?_ | refine AXO.sl 2 fun _ => ?_) <;> try dsimp only [List.set_cons_succ, List.set_cons_zero, List.getD_cons_succ, List.getD_cons_zero] <;> refine AX.done_keep [0, 1, 2, 4, 5, 6, 7, 8, 10, 11, 12, 13, 14, 15, 16, 17, 18, 19, 20, 21, 22, 23, 24, 25, 26, 27, 28, 29, 30, 31, 32, 33, 34, 35, 36, 37, 38, 39, 40, 49, 50] ?_) | refine AW.jt ?_ | refine AW.jf ?_ | refine AW.jj (fun hb => ?_) (fun hb => ?_) | refine AW.go ?_ | fail)
        repeat' (first | (refine AW.r 13 ?_ <;> refine AL.d AOp.ad ?_ <;> refine AL.es 1 ?_ <;> refine AL.nil ?_) | refine AW.jt ?_ | refine AW.jf ?_ | refine AW.jj (fun hb => ?_) (fun hb => ?_) | refine AW.go ?_ | fail)
        refine AW.frame_eq rfl (show _ = [Own.tail b' ((oo ++ [rnG q x]).map GFml.av).length c' 6, .box r5 (.st [.int .i64 k, .int .i64 ar, .str nm, strs vars, strs args2, .slt ((oo ++ [rnG q x]).map GFml.av) b' c']), .map m6 (kvW AV.str (SP.m q)) g6, .map mb (kvW AV.str o.m) g, .box r4 zF] from by rw [hm]; rfl) ?_
        refine AW.again_keep (kids.length - (i + 1)) [4, 5, 6, 35, 36, 37] (by omega) ⟨i + 1, oo ++ [rnG q x], b', c', hlt, rfl, rfl, rfl, ?_⟩
        rw [he, List.take_add_one, hx]; simp
      · have ho2 : oo = rnGL q kids := by rw [rnGL_map, he, List.take_of_length_le (by omega)]
        subst ho2
        refine AW.weak_box 1 (.st [.int .i64 k, .int .i64 ar, .str nm, strs vars, strs args2, .sl ((rnGL q kids).map GFml.av)]) rfl (.st (.cons (.refl _) (.cons (.refl _) (.cons (.refl _) (.cons (.refl _) (.cons (.refl _) (.cons .slt .nil))))))) ?_
        repeat' (first | refine AW.re 10 1 ?_ | refine AW.jt ?_ | refine AW.jf ?_ | refine AW.jj (fun hb => ?_) (fun hb => ?_) | refine AW.go ?_ | fail)
        all_goals try (exfalso; simp only [decide_eq_true_eq, decide_eq_false_iff_not, List.length_map] at *; omega)
        repeat' (first | (refine AW.r 14 ?_ <;> (first | refine AL.d AOp.la ?_ | refine AL.d (AOp.lw 0) ?_ | refine AL.d (AOp.lw 1) ?_ | refine AL.d (AOp.lw 2) ?_ | refine AL.d (AOp.lw 3) ?_ | refine AL.d (AOp.lw 4) ?_) <;> (first | refine AL.sl 0 ?_ | refine AL.sl 1 ?_ | refine AL.sl 2 ?_ | refine AL.sl 3 ?_ | refine AL.sl 4 ?_) <;> refine AL.nil ?_) | refine AW.jt ?_ | refine AW.jf ?_ | refine AW.jj (fun hb => ?_) (fun hb => ?_) | refine AW.go ?_ | fail)
        exact AW.retc (.cell 4 rfl rfl (by kernel_rfl) .nil) (.cons _ (.cons _ (.cons _ (.cons_cons _ (.cons _ .slnil))))) ⟨rfl, rfl⟩
    · cases o with
      | none => simp [kvW, SP.m] at hk2
      | some p =>
        obtain ⟨a, b⟩ := p
        have hj0 : j = 0 ∧ key = .str a ∧ v = .str b := by
          cases j with
          | zero => simp [kvW, SP.m] at hk2; exact ⟨rfl, hk2.1.symm, hk2.2.symm⟩
          | succ j => simp [kvW, SP.m] at hk2
        obtain ⟨rfl, rfl, rfl⟩ := hj0
        rcases hq with ⟨rfl, rfl⟩ | ⟨rfl, _, _⟩
        · have hca := hC a
          have hflt : SP.flt (some (a, b)) vars = if has vars a = true then none else some (a, b) := rfl
          generalize has vars a = HV at *
          cases HV with
          | true =>
            repeat' (first | (refine AW.r 6 ?_ <;> refine AL.d (AOp.entry (i := 2) (j := 0) (k := 0) rfl rfl rfl hk2) ?_ <;> refine AL.es 4 ?_ <;> refine AL.nil ?_) | (refine AW.r 7 ?_ <;> refine AL.es 3 ?_ <;> refine AL.d (AOp.call rfl rfl (hca.pure _)) ?_ <;> refine AL.es 1 ?_ <;> refine AL.nil ?_) | refine AW.jt ?_ | refine AW.jf ?_ | refine AW.jj (fun hb => ?_) (fun hb => ?_) | refine AW.go ?_ | fail)
            exact AW.again_keep 0 [1, 2, 4, 5, 6, 20] (by simp [SP.m]) ⟨[0], none, g6, rfl, rfl, rfl, .inr ⟨rfl, by simp, by rw [hflt]; rfl⟩⟩
          | false =>
            repeat' (first | (refine AW.r 6 ?_ <;> refine AL.d (AOp.entry (i := 2) (j := 0) (k := 0) rfl rfl rfl hk2) ?_ <;> refine AL.es 4 ?_ <;> refine AL.nil ?_) | (refine AW.r 7 ?_ <;> refine AL.es 3 ?_ <;> refine AL.d (AOp.call rfl rfl (hca.pure _)) ?_ <;> refine AL.es 1 ?_ <;> refine AL.nil ?_) | (refine AW.r 8 ?_ <;> refine AL.es 3 ?_ <;> refine AL.setS 1 9 AV.str b rfl rfl rfl rfl (by kernel_rfl) ?_ <;> refine AL.nil ?_) | refine AW.jt ?_ | refine AW.jf ?_ | refine AW.jj (fun hb => ?_) (fun hb => ?_) | refine AW.go ?_ | fail)
            exact AW.again_keep 0 [1, 2, 4, 5, 6, 20] (by simp [SP.m]) ⟨[0], some (a, b), _, rfl, rfl, rfl, .inr ⟨rfl, by simp, by rw [hflt]; rfl⟩⟩
        · exact (hk1 (by simp)).elim
end Go.Proofs.YtlpndgodkkndnaaDoor
namespace Go.Proofs.YtlpndgodkkndnaaDoor
open Go.RowKit Go.SX
set_option maxRecDepth 100000
set_option maxHeartbeats 4000000
set_option linter.unusedVariables false
set_option linter.unusedSimpArgs false
def swp (a b v : ByteArray) : ByteArray := bif decide (v = a) then b else v
mutual
def rnF (a b : ByteArray) : GFml → GFml
  | ⟨k, ar, nm, vars, args, kids⟩ => ⟨k, ar, nm, vars, args.map (swp a b), bif has vars a then kids else rnFs a b kids⟩
def rnFs (a b : ByteArray) : List GFml → List GFml
  | [] => []
  | x :: l => rnF a b x :: rnFs a b l
end
theorem rnFs_map (a b : ByteArray) : ∀ l : List GFml, rnFs a b l = l.map (rnF a b)
  | [] => by rw [rnFs]; rfl
  | x :: l => by rw [rnFs, rnFs_map a b l]; rfl
theorem rnV_nil (v : ByteArray) : rnV [] v = v := rfl
theorem rnV_one (a b v : ByteArray) : rnV [(a, b)] v = swp a b v := by
  rw [rnV, swp, lookA]
  cases h : decide (v = a) <;> simp_all [lookA, eq_comm]
theorem rnG_none : ∀ (N : Nat) (f : GFml), ndF f ≤ N → rnG none f = f := by
  intro N
  induction N using Nat.strongRecOn with
  | _ N ih =>
    intro f hN
    have hnd := ndF_eq f
    obtain ⟨k, ar, nm, vars, args, kids⟩ := f
    simp only at *
    rw [rnG, rnGL_map]
    have h1 : args.map (rnV (SP.m none)) = args := (List.map_congr_left (f := rnV (SP.m none)) (g := id) fun x _ => rnV_nil x).trans (List.map_id _)
    have h2 : kids.map (rnG (SP.flt none vars)) = kids := by
      refine (List.map_congr_left (g := id) fun x hx => ?_).trans (List.map_id _)
      exact ih (ndF x) (by have := ndFs_mem hx; omega) x (Nat.le_refl _)
    rw [h1, h2]
theorem rnG_some (a b : ByteArray) : ∀ (N : Nat) (f : GFml), ndF f ≤ N → rnG (some (a, b)) f = rnF a b f := by
  intro N
  induction N using Nat.strongRecOn with
  | _ N ih =>
    intro f hN
    have hnd := ndF_eq f
    obtain ⟨k, ar, nm, vars, args, kids⟩ := f
    simp only at *
    rw [rnG, rnF, rnGL_map, rnFs_map]
    have h1 : args.map (rnV (SP.m (some (a, b)))) = args.map (swp a b) := List.map_congr_left fun x _ => rnV_one a b x
    rw [h1]
    congr 1
    rw [SP.flt]
    cases has vars a with
    | true =>
      refine (List.map_congr_left (g := id) fun x hx => ?_).trans (List.map_id _)
      exact rnG_none _ x (Nat.le_refl _)
    | false => exact List.map_congr_left fun x hx => ih (ndF x) (by have := ndFs_mem hx; omega) x (Nat.le_refl _)
theorem ref_renamed (a b : ByteArray) : ∀ (N : Nat) (f : GFml), ndF f ≤ N → f.Ok → Tri Tryd.prog 47 [f.st, .str a, .str b] [] (D (rnF a b f).st []) := by
  intro N
  induction N using Nat.strongRecOn with
  | _ N ih =>
    intro f hN ho
    have hnd := ndF_eq f
    obtain ⟨⟨_, _, _, q4, q5⟩, q6, q7⟩ := ho
    have l4 := q4.1
    have l5 := q5.1
    have hV := Among_has f.Vars (by omega) a
    obtain ⟨k, ar, nm, vars, args, kids⟩ := f
    rw [rnF]
    simp only at *
    generalize has vars a = HV at *
    refine Tri.enter 65 Tryd.func47 rfl rfl rfl rfl fun Fr w0 => ?_
    repeat' (first | (refine AW.r 0 ?_ <;> (first | refine AL.d (AOp.box_ro (v := .st [.int .i64 k, .int .i64 ar, .str nm, strs vars, strs args, .sl (kids.map GFml.av)]) rfl rfl) ?_ | refine AL.d (AOp.box_ro rfl rfl) ?_) <;> refine AL.alloc_z (t := 25) zF (by kernel_rfl) rfl rfl fun r => ?_ <;> refine AL.nil ?_) | refine AW.jt ?_ | refine AW.jf ?_ | refine AW.jj (fun hb => ?_) (fun hb => ?_) | refine AW.go ?_ | fail)
    repeat' (first | (refine AW.r 1 ?_ <;> (first | refine AL.d AOp.la ?_ | refine AL.d (AOp.lw 0) ?_) <;> refine AL.alloc_z (t := 25) zF (by kernel_rfl) rfl rfl fun r7 => ?_ <;> refine AL.sl 0 ?_ <;> refine AL.nil ?_) | refine AW.jt ?_ | refine AW.jf ?_ | refine AW.jj (fun hb => ?_) (fun hb => ?_) | refine AW.go ?_ | fail)
    repeat' (first | (refine AW.r 2 ?_ <;> (first | refine AL.d AOp.fa ?_ | refine AL.d (AOp.fr 4) ?_) <;> (first | refine AL.store_nil 0 rfl rfl rfl (by kernel_rfl) ?_ | refine AL.sl 0 ?_) <;> (first | refine AL.d AOp.fa ?_ | refine AL.d (AOp.fr 5) ?_) <;> (first | refine AL.store_nil 0 rfl rfl rfl (by kernel_rfl) ?_ | refine AL.sl 0 ?_) <;> refine AL.nil ?_) | refine AW.jt ?_ | refine AW.jf ?_ | refine AW.jj (fun hb => ?_) (fun hb => ?_) | fail)
    refine AW.own_nil 1 ?_
    repeat' (first | refine AW.re 3 1 ?_ | refine AW.jt ?_ | refine AW.jf ?_ | refine AW.jj (fun hb => ?_) (fun hb => ?_) | refine AW.go ?_ | fail)
    refine AW.prune [1, 2, 3, 6, 7, 8] (AW.loop (fun mz af h => ∃ (i : Nat) (o : List ByteArray) (tt : Option Nat) (cc : Nat), i ≤ args.length ∧ mz = args.length - i ∧ af = [(1, .str a), (2, .str b), (3, .at (.st [.int .i64 k, .int .i64 ar, .str nm, strs vars, strs args, .sl (kids.map GFml.av)])), (6, .ref r 0), (7, .ref r7 0), (8, .int .i64 i)] ∧ h = [.tail tt (o.map AV.str).length cc 1, .box r7 (.st [.int .i64 k, .int .i64 ar, .str nm, strs vars, .slt (o.map AV.str) tt cc, .slt [] none 0]), .box r zF] ∧ o = (args.take i).map (swp a b)) args.length ⟨0, [], none, 0, Nat.zero_le _, rfl, rfl, rfl, by simp⟩ ?_)
    rintro mz af h ⟨i, o, tt, cc, hi, rfl, rfl, rfl, he⟩
    refine AW.seq ?_
    by_cases hlt : i < args.length
    · obtain ⟨x, hx⟩ := get_lt hlt
      have hx' : (args.map AV.str)[((i : Nat) : Int).toNat]? = some (.str x) := map_get hx
      have hol : o.length ≤ 8796093021952 := by rw [he]; simp; omega
      have hm : (o ++ [swp a b x]).map AV.str = o.map AV.str ++ [.str (swp a b x)] := by simp
      repeat' (first | refine AW.re 4 5 ?_ | refine AW.jt ?_ | refine AW.jf ?_ | refine AW.jj (fun hb => ?_) (fun hb => ?_) | refine AW.go ?_ | fail)
      all_goals try (exfalso; simp only [decide_eq_true_eq, decide_eq_false_iff_not, List.length_map] at *; omega)
      repeat' (first | (refine AW.r 6 ?_ <;> (first | refine AL.d AOp.fa ?_ | refine AL.d (AOp.fr 4) ?_) <;> (first | refine AL.d AOp.la ?_ | refine AL.d (AOp.ll 0) ?_ | refine AL.d (AOp.ll 1) ?_ | refine AL.d (AOp.ll 2) ?_) <;> refine AL.es 1 ?_ <;> refine AL.d (AOp.index_sl rfl rfl (by omega) hx' (by kernel_rfl) rfl) ?_ <;> (first | refine AL.d AOp.la ?_ | refine AL.d (AOp.ll 0) ?_ | refine AL.d (AOp.ll 1) ?_ | refine AL.d (AOp.ll 2) ?_) <;> refine AL.es 1 ?_ <;> refine AL.nil ?_) | refine AW.re 7 3 ?_ | refine AW.re 8 2 ?_ | (refine AW.r 9 ?_ <;> (first | refine AL.d AOp.fa ?_ | refine AL.d (AOp.fr 4) ?_) <;> (first | refine AL.d AOp.la ?_ | refine AL.d (AOp.ll 0) ?_ | refine AL.d (AOp.ll 1) ?_ | refine AL.d (AOp.ll 2) ?_) <;> refine AL.es 1 ?_ <;> refine AL.d (AOp.lit (e := 9) (sz := 1) (by kernel_rfl) rfl rfl rfl (P_one rfl) (by decide)) ?_ <;> refine AL.append (i := 0) (xs := o.map AV.str) (e := 9) (sz := 1) (bytes := 16) rfl rfl rfl rfl (by kernel_rfl) (by kernel_rfl) (P_map fun _ => rfl) (P_one rfl) rfl (by simp only [List.length_map]; simp; omega) (by simp only [List.length_map]; simp; omega) rfl fun b' c' => ?_ <;> (first | refine AL.d AOp.fa ?_ | refine AL.d (AOp.fr 4) ?_) <;> (first | refine AL.sl 0 ?_ | refine AL.sl 1 ?_ | refine AL.sl 2 ?_) <;> refine AL.nil ?_) | refine AW.jt ?_ | refine AW.jf ?_ | refine AW.jj (fun hb => ?_) (fun hb => ?_) | refine AW.go ?_ | fail)
      all_goals rw [toList_beq] at hb
      · have hr : swp a b x = b := by rw [swp, hb]; rfl
        rw [hr] at hm
        repeat' (first | (refine AW.r 5 ?_ <;> refine AL.es 1 ?_ <;> refine AL.d AOp.ad ?_ <;> refine AL.es 1 ?_ <;> refine AL.nil ?_) | refine AW.jt ?_ | refine AW.jf ?_ | refine AW.jj (fun hb => ?_) (fun hb => ?_) | refine AW.go ?_ | fail)
        refine AW.frame_eq rfl (show _ = [Own.tail b' ((o ++ [b]).map AV.str).length c' 1, .box r7 (.st [.int .i64 k, .int .i64 ar, .str nm, strs vars, .slt ((o ++ [b]).map AV.str) b' c', .slt [] none 0]), .box r zF] from by rw [hm]; rfl) ?_
        refine AW.again_keep (args.length - (i + 1)) [1, 2, 3, 6, 7, 8] (by omega) ⟨i + 1, o ++ [b], b', c', hlt, rfl, rfl, rfl, ?_⟩
        rw [he, List.take_add_one, hx]; simp [hr]
      · have hr : swp a b x = x := by rw [swp, hb]; rfl
        rw [hr] at hm
        repeat' (first | (refine AW.r 5 ?_ <;> refine AL.es 1 ?_ <;> refine AL.d AOp.ad ?_ <;> refine AL.es 1 ?_ <;> refine AL.nil ?_) | refine AW.jt ?_ | refine AW.jf ?_ | refine AW.jj (fun hb => ?_) (fun hb => ?_) | refine AW.go ?_ | fail)
        refine AW.frame_eq rfl (show _ = [Own.tail b' ((o ++ [x]).map AV.str).length c' 1, .box r7 (.st [.int .i64 k, .int .i64 ar, .str nm, strs vars, .slt ((o ++ [x]).map AV.str) b' c', .slt [] none 0]), .box r zF] from by rw [hm]; rfl) ?_
        refine AW.again_keep (args.length - (i + 1)) [1, 2, 3, 6, 7, 8] (by omega) ⟨i + 1, o ++ [x], b', c', hlt, rfl, rfl, rfl, ?_⟩
        rw [he, List.take_add_one, hx]; simp [hr]
    · have ho2 : o = args.map (swp a b) := by rw [he, List.take_of_length_le (by omega)]
      subst ho2
      generalize args.map (swp a b) = args2 at *
      refine AW.weak_box 1 (.st [.int .i64 k, .int .i64 ar, .str nm, strs vars, strs args2, .slt [] none 0]) rfl (.st (.cons (.refl _) (.cons (.refl _) (.cons (.refl _) (.cons (.refl _) (.cons .slt (.cons (.refl _) .nil))))))) ?_
      refine AW.drop (ah' := [.box r7 (.st [.int .i64 k, .int .i64 ar, .str nm, strs vars, strs args2, .slt [] none 0]), .box r zF]) (List.sublist_cons_self _ _) ?_
      refine AW.own_nil 6 ?_
      repeat' (first | refine AW.re 4 5 ?_ | refine AW.re 10 1 ?_ | refine AW.jt ?_ | refine AW.jf ?_ | refine AW.jj (fun hb => ?_) (fun hb => ?_) | refine AW.go ?_ | fail)
      all_goals try (exfalso; simp only [decide_eq_true_eq, decide_eq_false_iff_not, List.length_map] at *; omega)
      have hgo : ∀ (C : GFml → GFml), (∀ x, x ∈ kids → C x = bif HV then x else rnF a b x) → (kids.map C) = bif HV then kids else rnFs a b kids := by
        intro C hC
        rw [List.map_congr_left hC]
        cases HV with
        | true => exact List.map_id _
        | false => rw [rnFs_map]; rfl
      refine AW.prune [1, 2, 3, 6, 7, 10] (AW.loop (fun mz af h => ∃ (i : Nat) (o : List GFml) (tt : Option Nat) (cc : Nat), i ≤ kids.length ∧ mz = kids.length - i ∧ af = [(1, .str a), (2, .str b), (3, .at (.st [.int .i64 k, .int .i64 ar, .str nm, strs vars, strs args, .sl (kids.map GFml.av)])), (6, .ref r 0), (7, .ref r7 0), (10, .int .i64 i)] ∧ h = [.tail tt (o.map GFml.av).length cc 6, .box r7 (.st [.int .i64 k, .int .i64 ar, .str nm, strs vars, strs args2, .slt (o.map GFml.av) tt cc]), .box r zF] ∧ o = (kids.take i).map (fun x => bif HV then x else rnF a b x)) kids.length ⟨0, [], none, 0, Nat.zero_le _, rfl, rfl, rfl, by simp⟩ ?_)
      rintro mz af h ⟨i, o, tt, cc, hi, rfl, rfl, rfl, he⟩
      refine AW.seq ?_
      by_cases hlt : i < kids.length
      · obtain ⟨x, hx⟩ := get_lt hlt
        have hx' : (kids.map GFml.av)[((i : Nat) : Int).toNat]? = some (x.st) := GFml.get hx
        have hxm := List.mem_of_getElem? hx
        have hnx := ndFs_mem hxm
        have hc := ih (ndF x) (by omega) x (Nat.le_refl _) (q7 x hxm)
        have hol : o.length ≤ 1353245080300 := by rw [he]; simp; omega
        repeat' (first | refine AW.re 11 5 ?_ | refine AW.jt ?_ | refine AW.jf ?_ | refine AW.jj (fun hb => ?_) (fun hb => ?_) | refine AW.go ?_ | fail)
        all_goals try (exfalso; simp only [decide_eq_true_eq, decide_eq_false_iff_not, List.length_map] at *; omega)
        repeat' (first | (refine AW.r 13 ?_ <;> (first | refine AL.d AOp.fa ?_ | refine AL.d (AOp.fr 5) ?_) <;> (first | refine AL.d AOp.la ?_ | refine AL.d (AOp.ll 0) ?_ | refine AL.d (AOp.ll 1) ?_ | refine AL.d (AOp.ll 2) ?_) <;> refine AL.es 1 ?_ <;> refine AL.d (AOp.index_sl rfl rfl (by omega) hx' (by kernel_rfl) rfl) ?_ <;> (first | refine AL.d AOp.la ?_ | refine AL.d (AOp.lw 0) ?_ | refine AL.d (AOp.lw 1) ?_ | refine AL.d (AOp.lw 2) ?_) <;> refine AL.alloc_z (t := 25) zF (by kernel_rfl) rfl rfl fun rx => ?_ <;> (first | refine AL.sl 0 ?_ | refine AL.sl 1 ?_ | refine AL.sl 2 ?_) <;> refine AL.nil ?_) | refine AW.jt ?_ | refine AW.jf ?_ | refine AW.jj (fun hb => ?_) (fun hb => ?_) | refine AW.go ?_ | fail)
        cases HV with
        | true =>
          have hm : (o ++ [x]).map GFml.av = o.map GFml.av ++ [(x).st] := by simp [GFml.av_eq]
          repeat' (first | (refine AW.r 14 ?_ <;> (first | refine AL.d AOp.fa ?_ | refine AL.d (AOp.fr 3) ?_) <;> (first | refine AL.d AOp.la ?_ | refine AL.d (AOp.ll 0) ?_ | refine AL.d (AOp.ll 1) ?_ | refine AL.d (AOp.ll 2) ?_ | refine AL.d (AOp.ll 3) ?_) <;> refine AL.es 1 ?_ <;> refine AL.d (AOp.call rfl rfl (hV.pure _)) ?_ <;> refine AL.es 1 ?_ <;> refine AL.nil ?_) | (refine AW.r 16 ?_ <;> (first | refine AL.d AOp.fa ?_ | refine AL.d (AOp.fr 5) ?_) <;> (first | refine AL.d AOp.la ?_ | refine AL.d (AOp.ll 0) ?_ | refine AL.d (AOp.ll 1) ?_ | refine AL.d (AOp.ll 2) ?_ | refine AL.d (AOp.ll 3) ?_) <;> (first | refine AL.d AOp.la ?_ | refine AL.d (AOp.lw 0) ?_ | refine AL.d (AOp.lw 1) ?_ | refine AL.d (AOp.lw 2) ?_ | refine AL.d (AOp.lw 3) ?_) <;> refine AL.d (AOp.lit (e := 25) (sz := 6) (by kernel_rfl) rfl rfl rfl (P_one rfl) (by decide)) ?_ <;> refine AL.append (i := 1) (xs := o.map GFml.av) (e := 25) (sz := 6) (bytes := 104) rfl rfl rfl rfl (by kernel_rfl) (by kernel_rfl) (P_map GFml.size_av) (P_one rfl) rfl (by simp only [List.length_map]; simp; omega) (by simp only [List.length_map]; simp; omega) rfl fun b' c' => ?_ <;> (first | refine AL.d AOp.fa ?_ | refine AL.d (AOp.fr 5) ?_) <;> (first | refine AL.sl 0 ?_ | refine AL.sl 1 ?_ | refine AL.sl 2 ?_ | refine AL.sl 3 ?_) <;> refine AL.nil ?_) | refine AW.jt ?_ | refine AW.jf ?_ | refine AW.jj (fun hb => ?_) (fun hb => ?_) | refine AW.go ?_ | fail)
          refine AW.drop (ah' := [Own.tail b' ((o ++ [x]).map GFml.av).length c' 6, .box r7 (.st [.int .i64 k, .int .i64 ar, .str nm, strs vars, strs args2, .slt ((o ++ [x]).map GFml.av) b' c']), .box r zF]) (by rw [hm]; exact List.sublist_cons_self _ _) ?_
          repeat' (first | (refine AW.r 12 ?_ <;> refine AL.es 1 ?_ <;> refine AL.d AOp.ad ?_ <;> refine AL.es 1 ?_ <;> refine AL.nil ?_) | refine AW.jt ?_ | refine AW.jf ?_ | refine AW.jj (fun hb => ?_) (fun hb => ?_) | refine AW.go ?_ | fail)
          refine AW.again_keep (kids.length - (i + 1)) [1, 2, 3, 6, 7, 10] (by omega) ⟨i + 1, o ++ [x], b', c', hlt, rfl, rfl, rfl, ?_⟩
          rw [he, List.take_add_one, hx]; simp
        | false =>
          have hm : (o ++ [rnF a b x]).map GFml.av = o.map GFml.av ++ [(rnF a b x).st] := by simp [GFml.av_eq]
          repeat' (first | (refine AW.r 14 ?_ <;> (first | refine AL.d AOp.fa ?_ | refine AL.d (AOp.fr 3) ?_) <;> (first | refine AL.d AOp.la ?_ | refine AL.d (AOp.ll 0) ?_ | refine AL.d (AOp.ll 1) ?_ | refine AL.d (AOp.ll 2) ?_ | refine AL.d (AOp.ll 3) ?_) <;> refine AL.es 1 ?_ <;> (first | refine AL.d (AOp.call rfl rfl (hV.pure _)) ?_ | refine AL.d (AOp.call rfl rfl (hc.pure _)) ?_) <;> refine AL.es 1 ?_ <;> refine AL.nil ?_) | (refine AW.r 15 ?_ <;> (first | refine AL.d AOp.la ?_ | refine AL.d (AOp.lw 0) ?_ | refine AL.d (AOp.lw 1) ?_ | refine AL.d (AOp.lw 2) ?_ | refine AL.d (AOp.lw 3) ?_) <;> refine AL.es 2 ?_ <;> (first | refine AL.d (AOp.call rfl rfl (hV.pure _)) ?_ | refine AL.d (AOp.call rfl rfl (hc.pure _)) ?_) <;> (first | refine AL.sl 0 ?_ | refine AL.sl 1 ?_ | refine AL.sl 2 ?_ | refine AL.sl 3 ?_) <;> refine AL.nil ?_) | (refine AW.r 16 ?_ <;> (first | refine AL.d AOp.fa ?_ | refine AL.d (AOp.fr 5) ?_) <;> (first | refine AL.d AOp.la ?_ | refine AL.d (AOp.ll 0) ?_ | refine AL.d (AOp.ll 1) ?_ | refine AL.d (AOp.ll 2) ?_ | refine AL.d (AOp.ll 3) ?_) <;> (first | refine AL.d AOp.la ?_ | refine AL.d (AOp.lw 0) ?_ | refine AL.d (AOp.lw 1) ?_ | refine AL.d (AOp.lw 2) ?_ | refine AL.d (AOp.lw 3) ?_) <;> refine AL.d (AOp.lit (e := 25) (sz := 6) (by kernel_rfl) rfl rfl rfl (P_one rfl) (by decide)) ?_ <;> refine AL.append (i := 1) (xs := o.map GFml.av) (e := 25) (sz := 6) (bytes := 104) rfl rfl rfl rfl (by kernel_rfl) (by kernel_rfl) (P_map GFml.size_av) (P_one rfl) rfl (by simp only [List.length_map]; simp; omega) (by simp only [List.length_map]; simp; omega) rfl fun b' c' => ?_ <;> (first | refine AL.d AOp.fa ?_ | refine AL.d (AOp.fr 5) ?_) <;> (first | refine AL.sl 0 ?_ | refine AL.sl 1 ?_ | refine AL.sl 2 ?_ | refine AL.sl 3 ?_) <;> refine AL.nil ?_) | refine AW.jt ?_ | refine AW.jf ?_ | refine AW.jj (fun hb => ?_) (fun hb => ?_) | refine AW.go ?_ | fail)
          refine AW.drop (ah' := [Own.tail b' ((o ++ [rnF a b x]).map GFml.av).length c' 6, .box r7 (.st [.int .i64 k, .int .i64 ar, .str nm, strs vars, strs args2, .slt ((o ++ [rnF a b x]).map GFml.av) b' c']), .box r zF]) (by rw [hm]; exact List.sublist_cons_self _ _) ?_
          repeat' (first | (refine AW.r 12 ?_ <;> refine AL.es 1 ?_ <;> refine AL.d AOp.ad ?_ <;> refine AL.es 1 ?_ <;> refine AL.nil ?_) | refine AW.jt ?_ | refine AW.jf ?_ | refine AW.jj (fun hb => ?_) (fun hb => ?_) | refine AW.go ?_ | fail)
          refine AW.again_keep (kids.length - (i + 1)) [1, 2, 3, 6, 7, 10] (by omega) ⟨i + 1, o ++ [rnF a b x], b', c', hlt, rfl, rfl, rfl, ?_⟩
          rw [he, List.take_add_one, hx]; simp
      · have ho2 : o = bif HV then kids else rnFs a b kids := by
          rw [← hgo _ fun x _ => rfl, he, List.take_of_length_le (by omega)]
        rw [← ho2]
        refine AW.weak_box 1 (.st [.int .i64 k, .int .i64 ar, .str nm, strs vars, strs args2, .sl (o.map GFml.av)]) rfl (.st (.cons (.refl _) (.cons (.refl _) (.cons (.refl _) (.cons (.refl _) (.cons (.refl _) (.cons .slt .nil))))))) ?_
        repeat' (first | refine AW.re 11 5 ?_ | refine AW.jt ?_ | refine AW.jf ?_ | refine AW.jj (fun hb => ?_) (fun hb => ?_) | refine AW.go ?_ | fail)
        all_goals try (exfalso; simp only [decide_eq_true_eq, decide_eq_false_iff_not, List.length_map] at *; omega)
        repeat' (first | (refine AW.r 17 ?_ <;> (first | refine AL.d AOp.la ?_ | refine AL.d (AOp.lw 0) ?_ | refine AL.d (AOp.lw 1) ?_ | refine AL.d (AOp.lw 2) ?_) <;> (first | refine AL.sl 0 ?_ | refine AL.sl 1 ?_ | refine AL.sl 2 ?_) <;> refine AL.nil ?_) | refine AW.jt ?_ | refine AW.jf ?_ | refine AW.jj (fun hb => ?_) (fun hb => ?_) | refine AW.go ?_ | fail)
        exact AW.retc (.cell 2 rfl rfl (by kernel_rfl) .nil) (List.nil_sublist _) ⟨rfl, rfl⟩
end Go.Proofs.YtlpndgodkkndnaaDoor
namespace Go.Proofs.YtlpndgodkkndnaaDoor
open Go.RowKit Go.SX
set_option maxRecDepth 100000
set_option maxHeartbeats 4000000
set_option linter.unusedVariables false
set_option linter.unusedSimpArgs false
mutual
def erF : GFml → GFml
  | ⟨k, ar, nm, vars, args, kids⟩ => ⟨k, ar, nm, vars.map fun _ => empB, args.map fun _ => empB, erL kids⟩
def erL : List GFml → List GFml
  | [] => []
  | x :: l => erF x :: erL l
end
theorem erL_map : ∀ l : List GFml, erL l = l.map erF
  | [] => by rw [erL]; rfl
  | x :: l => by rw [erL, erL_map l]; rfl
mutual
theorem er_nd : ∀ f : GFml, ndF (erF f) = ndF f
  | ⟨k, ar, nm, vars, args, kids⟩ => by rw [erF, ndF, ndF, er_ndL kids]
theorem er_ndL : ∀ l : List GFml, ndFs (erL l) = ndFs l
  | [] => by rw [erL]
  | x :: l => by rw [erL, ndFs, ndFs, er_nd x, er_ndL l]
end
mutual
theorem er_ct : ∀ (f : GFml) (lv : Nat), ctF (erF f) lv = ctF f lv
  | ⟨k, ar, nm, vars, args, kids⟩, lv => by rw [erF, ctF, ctF, er_ctL kids]
theorem er_ctL : ∀ (l : List GFml) (lv : Nat) (n d : Int), ctFs (erL l) lv n d = ctFs l lv n d
  | [], lv, n, d => by rw [erL]
  | x :: l, lv, n, d => by rw [erL, ctFs, ctFs, er_ct x, er_ctL l]
end
theorem er_binds (k ar : Int) (nm : ByteArray) (v1 v2 a1 a2 : List ByteArray) (k1 k2 : List GFml) : bindsB ⟨k, ar, nm, v1, a1, k1⟩ = bindsB ⟨k, ar, nm, v2, a2, k2⟩ := rfl
mutual
theorem er_pos (s : ByteArray) : ∀ (f : GFml) (odd part : Bool), posF s (erF f) odd part = posF s f odd part
  | ⟨k, ar, nm, vars, args, kids⟩, odd, part => by rw [erF, posF, posF, er_posL s kids, er_binds]
theorem er_posL (s : ByteArray) : ∀ (l : List GFml) (odd part : Bool), posFs s (erL l) odd part = posFs s l odd part
  | [], odd, part => by rw [erL]
  | x :: l, odd, part => by rw [erL, posFs, posFs, er_pos s x, er_posL s l]
end
theorem er_posH (s : ByteArray) : ∀ l : List GFml, posH s (erL l) = posH s l
  | [] => by rw [erL]
  | x :: l => by rw [erL, posH, posH, er_pos]
mutual
theorem er_gr : ∀ f : GFml, grF (erF f) = grF f
  | ⟨k, ar, nm, vars, args, kids⟩ => by rw [erF, grF, grF, er_grL kids, er_posH]
theorem er_grL : ∀ l : List GFml, grFs (erL l) = grFs l
  | [] => by rw [erL]
  | x :: l => by rw [erL, grFs, grFs, er_gr x, er_grL l]
end
mutual
theorem er_ar : ∀ (f : GFml) (b : List GSym), arF (erF f) b = arF f b
  | ⟨k, ar, nm, vars, args, kids⟩, b => by
    have h : bindsN ⟨k, ar, nm, vars.map fun _ => empB, args.map fun _ => empB, erL kids⟩ = bindsN ⟨k, ar, nm, vars, args, kids⟩ := by simp [bindsN]
    rw [erF, arF, arF, er_arL kids, er_binds k ar nm _ vars _ args _ kids, h, List.length_map]
theorem er_arL : ∀ (l : List GFml) (b : List GSym), arFs (erL l) b = arFs l b
  | [], b => by rw [erL]
  | x :: l, b => by rw [erL, arFs, arFs, er_ar x, er_arL l]
end
mutual
theorem er_oc : ∀ (f : GFml) (bd : List ByteArray) (out : List GSym), ocF (erF f) bd out = ocF f bd out
  | ⟨k, ar, nm, vars, args, kids⟩, bd, out => by
    rw [erF, ocF, ocF, er_ocL kids, er_binds k ar nm _ vars _ args _ kids, List.length_map]
theorem er_ocL : ∀ (l : List GFml) (bd : List ByteArray) (out : List GSym), ocFs (erL l) bd out = ocFs l bd out
  | [], bd, out => by rw [erL]
  | x :: l, bd, out => by rw [erL, ocFs, ocFs, er_oc x, er_ocL l]
end
theorem er_valid {f g : GFml} (h : erF g = erF f) (hv : validF f = true) (hs : shsF g = true) : validF g = true := by
  unfold validF at hv ⊢
  simp only [Bool.and_eq_true] at hv ⊢
  obtain ⟨⟨⟨⟨⟨h1, h2⟩, h3⟩, h4⟩, h5⟩, h6⟩ := hv
  rw [← er_ct g, ← er_ar g, ← er_gr g, ← er_oc g, h, er_ct, er_ar, er_gr, er_oc]
  exact ⟨⟨⟨⟨⟨h1, h2⟩, hs⟩, h4⟩, h5⟩, h6⟩
theorem namesG_all (l : List ByteArray) : ∀ pre, namesG true false pre l = l.all nameB := by
  induction l with
  | nil => intro pre; rfl
  | cons x l ih => intro pre; rw [namesG, ih, List.all_cons]; cases nameB x <;> rfl
theorem map_const {α β : Type} (g : α → α) (c : β) (l : List α) : (l.map g).map (fun _ => c) = l.map fun _ => c := by rw [List.map_map]; rfl
mutual
theorem rn_er (a b : ByteArray) : ∀ f : GFml, erF (rnF a b f) = erF f
  | ⟨k, ar, nm, vars, args, kids⟩ => by
    rw [rnF, erF, erF, map_const]
    cases has vars a with
    | true => rfl
    | false => rw [cond_false, rn_erL a b kids]
theorem rn_erL (a b : ByteArray) : ∀ l : List GFml, erL (rnFs a b l) = erL l
  | [] => by rw [rnFs]
  | x :: l => by rw [rnFs, erL, erL, rn_er a b x, rn_erL a b l]
end
theorem rn_len (a b : ByteArray) (l : List GFml) : (rnFs a b l).length = l.length := by rw [rnFs_map, List.length_map]
theorem shaped_swp {k ar : Int} {nm : ByteArray} {vars args : List ByteArray} {kids kids' : List GFml} (g : ByteArray → ByteArray) (hl : kids'.length = kids.length) (hg : ∀ x, nameB x = true → nameB (g x) = true)
    (h : shapedP ⟨k, ar, nm, vars, args, kids⟩ = true) : shapedP ⟨k, ar, nm, vars, args.map g, kids'⟩ = true := by
  simp only [shapedP, shp1, shp2, shp3, Bool.and_eq_true, hl, List.length_map, namesG_all] at h ⊢
  refine ⟨h.1, ⟨⟨h.2.1.1.1, ?_⟩, h.2.1.2⟩, h.2.2⟩
  have := h.2.1.1.2
  rw [List.all_eq_true] at this ⊢
  intro x hx
  obtain ⟨y, hy, rfl⟩ := List.mem_map.1 hx
  exact hg y (this y hy)
mutual
theorem rn_sh (a b : ByteArray) (hb : nameB b = true) : ∀ f : GFml, shsF f = true → shsF (rnF a b f) = true
  | ⟨k, ar, nm, vars, args, kids⟩, h => by
    rw [shsF, Bool.and_eq_true] at h
    rw [rnF, shsF, Bool.and_eq_true]
    have hsw : ∀ x, nameB x = true → nameB (swp a b x) = true := by
      intro x hx
      rw [swp]
      cases decide (x = a) with
      | true => exact hb
      | false => exact hx
    cases has vars a with
    | true => exact ⟨h.1, shaped_swp _ rfl hsw h.2⟩
    | false => exact ⟨rn_shL a b hb kids h.1, shaped_swp _ (rn_len a b kids) hsw h.2⟩
theorem rn_shL (a b : ByteArray) (hb : nameB b = true) : ∀ l : List GFml, shsFs l = true → shsFs (rnFs a b l) = true
  | [], h => by rw [rnFs]; rfl
  | x :: l, h => by
    rw [shsFs, Bool.and_eq_true] at h
    rw [rnFs, shsFs, rn_sh a b hb x h.1, rn_shL a b hb l h.2]; rfl
end
theorem swp_ok {a b x : ByteArray} (hb : strOk b) (hx : strOk x) : strOk (swp a b x) := by
  rw [swp]; cases decide (x = a) <;> assumption
mutual
theorem rn_ok (a b : ByteArray) (hb : strOk b) : ∀ f : GFml, f.Ok → (rnF a b f).Ok
  | ⟨k, ar, nm, vars, args, kids⟩, h => by
    obtain ⟨⟨h1, h2, h3, h4, h5⟩, h6, h7⟩ := h
    rw [rnF]
    have ha : lenOk 16 strOk (args.map (swp a b)) := ⟨by rw [List.length_map]; exact h5.1, fun x hx => by
      obtain ⟨y, hy, rfl⟩ := List.mem_map.1 hx
      exact swp_ok hb (h5.2 y hy)⟩
    cases has vars a with
    | true => exact .mk ⟨h1, h2, h3, h4, ha⟩ h6 h7
    | false => exact .mk ⟨h1, h2, h3, h4, ha⟩ (by simp only [cond_false, rn_len]; exact h6) (rn_okL a b hb kids h7)
theorem rn_okL (a b : ByteArray) (hb : strOk b) : ∀ l : List GFml, (∀ x ∈ l, x.Ok) → ∀ y ∈ rnFs a b l, y.Ok
  | [], h, y, hy => by rw [rnFs] at hy; cases hy
  | x :: l, h, y, hy => by
    rw [rnFs] at hy
    rcases List.mem_cons.1 hy with rfl | hy
    · exact rn_ok a b hb x (h x (by simp))
    · exact rn_okL a b hb l (fun z hz => h z (by simp [hz])) y hy
end
theorem swp_same (a v : ByteArray) : swp a a v = v := by
  rw [swp]
  cases h : decide (v = a) with
  | true => exact (of_decide_eq_true h).symm
  | false => rfl
theorem has_map_same (a : ByteArray) (l : List ByteArray) : l.map (swp a a) = l := (List.map_congr_left (g := id) fun x _ => swp_same a x).trans (List.map_id _)
mutual
theorem cp_same (a : ByteArray) : ∀ f : GFml, cpF a a f false = false
  | ⟨k, ar, nm, vars, args, kids⟩ => by
    rw [cpF, Bool.false_and, cond_false, Bool.false_or]
    cases has vars a with
    | true => rfl
    | false => exact cp_sameL a kids
theorem cp_sameL (a : ByteArray) : ∀ l : List GFml, cpL a a l false = false
  | [] => by rw [cpL]
  | x :: l => by rw [cpL, cp_same a x, cp_sameL a l]; rfl
end
def renE (a b : ByteArray) (f : GFml) : Int := bif validF f then (bif nameB a && nameB b then (bif cpF a b f false then 2 else 0) else 4) else 1
def renP (a b : ByteArray) (f : GFml) : GFml := bif renE a b f == 0 then rnF a b f else noF
end Go.Proofs.YtlpndgodkkndnaaDoor
namespace Go.Proofs.YtlpndgodkkndnaaDoor
open Go.RowKit Go.SX
set_option maxRecDepth 100000
set_option maxHeartbeats 4000000
set_option linter.unusedVariables false
set_option linter.unusedSimpArgs false
theorem n_Rename (f : GFml) (a b : ByteArray) (ho : f.Ok) (oa : strOk a) (ob : strOk b) : Tri Tryd.prog 21 [f.st, .str a, .str b] [] (D (.tup [(renP a b f).st, .int .i64 (renE a b f)]) []) := by
  have hv := f_Valid f ho
  have ha := f_Name a oa
  have hb := f_Name b ob
  have hc := n_captures a b _ f false (Nat.le_refl _) ho
  have hR := fun mb g => n_rename _ f (some (a, b)) mb g (Nat.le_refl _) ho
  rw [rnG_some a b _ f (Nat.le_refl _)] at hR
  have hF := n_fit (rnF a b f) (rn_ok a b ob f ho)
  have hFv : validF f = true → nameB b = true → fitF (rnF a b f) = (rnF a b f, 0) := by
    intro h1 h2
    rw [fitF, er_valid (rn_er a b f) h1 (rn_sh a b h2 f (validF_shs h1))]; rfl
  have hsame : a = b → cpF a b f false = false := fun h => by rw [← h]; exact cp_same a f
  generalize hFF : fitF (rnF a b f) = FF at *
  unfold renP renE
  generalize rnF a b f = rn at *
  generalize cpF a b f false = CP at *
  generalize validF f = V at *
  generalize nameB a = NA at *
  generalize nameB b = NB at *
  obtain ⟨k, ar, nm, vars, args, kids⟩ := f
  cases V with
  | false =>
    refine Tri.enter 43 Tryd.func21 rfl rfl rfl rfl fun Fr w0 => ?_
    repeat' (first | (refine AW.r 0 ?_ <;> (first | refine AL.d (AOp.box_ro (v := .st [.int .i64 k, .int .i64 ar, .str nm, strs vars, strs args, .sl (kids.map GFml.av)]) rfl rfl) ?_ | refine AL.d (AOp.box_ro rfl rfl) ?_) <;> refine AL.alloc_z (t := 25) zF (by kernel_rfl) rfl rfl fun r => ?_ <;> refine AL.es 1 ?_ <;> refine AL.nil ?_) | (refine AW.r 1 ?_ <;> (first | refine AL.d AOp.la ?_ | refine AL.d (AOp.lw 0) ?_) <;> refine AL.d (AOp.call rfl rfl (hv.pure _)) ?_ <;> refine AL.es 2 ?_ <;> refine AL.nil ?_) | (refine AW.r 2 ?_ <;> refine AL.d (AOp.build (pl := [(0, 1), (1, 1), (2, 1), (3, 1), (4, 1), (5, 1)]) (z := .st [.int .i64 0, .int .i64 0, .str ⟨#[]⟩, .sl [], .sl [], .sl []]) (by kernel_rfl) rfl rfl rfl) ?_ <;> refine AL.sl 0 ?_ <;> refine AL.es 1 ?_ <;> refine AL.nil ?_) | refine AW.jt ?_ | refine AW.jf ?_ | refine AW.jj (fun hb => ?_) (fun hb => ?_) | refine AW.go ?_ | fail)
    exact AW.retc (.cell 0 rfl rfl (by kernel_rfl) (.tmp rfl .nil)) (List.nil_sublist _) ⟨rfl, rfl⟩
  | true =>
    cases NA with
    | false =>
      refine Tri.enter 43 Tryd.func21 rfl rfl rfl rfl fun Fr w0 => ?_
      repeat' (first | (refine AW.r 0 ?_ <;> (first | refine AL.d (AOp.box_ro (v := .st [.int .i64 k, .int .i64 ar, .str nm, strs vars, strs args, .sl (kids.map GFml.av)]) rfl rfl) ?_ | refine AL.d (AOp.box_ro rfl rfl) ?_) <;> refine AL.alloc_z (t := 25) zF (by kernel_rfl) rfl rfl fun r => ?_ <;> refine AL.es 1 ?_ <;> refine AL.nil ?_) | (refine AW.r 1 ?_ <;> (first | refine AL.d AOp.la ?_ | refine AL.d (AOp.lw 0) ?_) <;> (first | refine AL.d (AOp.call rfl rfl (hv.pure _)) ?_ | refine AL.d (AOp.call rfl rfl (ha.pure _)) ?_ | refine AL.d (AOp.call rfl rfl (hb.pure _)) ?_) <;> refine AL.es 2 ?_ <;> refine AL.nil ?_) | (refine AW.r 3 ?_ <;> refine AL.es 1 ?_ <;> (first | refine AL.d (AOp.call rfl rfl (hv.pure _)) ?_ | refine AL.d (AOp.call rfl rfl (ha.pure _)) ?_ | refine AL.d (AOp.call rfl rfl (hb.pure _)) ?_) <;> refine AL.es 2 ?_ <;> (first | refine AL.es 1 ?_ | (refine AL.gx (fun hb => ?_) (fun hb => ?_) <;> refine AL.es 1 ?_)) <;> (first | (refine AL.gd ?_; (first | refine AL.d (AOp.call rfl rfl (hv.pure _)) ?_ | refine AL.d (AOp.call rfl rfl (ha.pure _)) ?_ | refine AL.d (AOp.call rfl rfl (hb.pure _)) ?_)) | refine AL.gs ?_ | refine AL.gu ?_) <;> refine AL.es 3 ?_ <;> refine AL.nil ?_) | (refine AW.r 4 ?_ <;> refine AL.d (AOp.build (pl := [(0, 1), (1, 1), (2, 1), (3, 1), (4, 1), (5, 1)]) (z := .st [.int .i64 0, .int .i64 0, .str ⟨#[]⟩, .sl [], .sl [], .sl []]) (by kernel_rfl) rfl rfl rfl) ?_ <;> refine AL.sl 0 ?_ <;> refine AL.es 1 ?_ <;> refine AL.nil ?_) | refine AW.jt ?_ | refine AW.jf ?_ | refine AW.jj (fun hb => ?_) (fun hb => ?_) | refine AW.go ?_ | fail)
      exact AW.retc (.cell 0 rfl rfl (by kernel_rfl) (.tmp rfl .nil)) (List.nil_sublist _) ⟨rfl, rfl⟩
    | true =>
    cases NB with
    | false =>
      refine Tri.enter 43 Tryd.func21 rfl rfl rfl rfl fun Fr w0 => ?_
      repeat' (first | (refine AW.r 0 ?_ <;> (first | refine AL.d (AOp.box_ro (v := .st [.int .i64 k, .int .i64 ar, .str nm, strs vars, strs args, .sl (kids.map GFml.av)]) rfl rfl) ?_ | refine AL.d (AOp.box_ro rfl rfl) ?_) <;> refine AL.alloc_z (t := 25) zF (by kernel_rfl) rfl rfl fun r => ?_ <;> refine AL.es 1 ?_ <;> refine AL.nil ?_) | (refine AW.r 1 ?_ <;> (first | refine AL.d AOp.la ?_ | refine AL.d (AOp.lw 0) ?_) <;> (first | refine AL.d (AOp.call rfl rfl (hv.pure _)) ?_ | refine AL.d (AOp.call rfl rfl (ha.pure _)) ?_ | refine AL.d (AOp.call rfl rfl (hb.pure _)) ?_) <;> refine AL.es 2 ?_ <;> refine AL.nil ?_) | (refine AW.r 3 ?_ <;> refine AL.es 1 ?_ <;> (first | refine AL.d (AOp.call rfl rfl (hv.pure _)) ?_ | refine AL.d (AOp.call rfl rfl (ha.pure _)) ?_ | refine AL.d (AOp.call rfl rfl (hb.pure _)) ?_) <;> refine AL.es 2 ?_ <;> (first | refine AL.es 1 ?_ | (refine AL.gx (fun hb => ?_) (fun hb => ?_) <;> refine AL.es 1 ?_)) <;> (first | (refine AL.gd ?_; (first | refine AL.d (AOp.call rfl rfl (hv.pure _)) ?_ | refine AL.d (AOp.call rfl rfl (ha.pure _)) ?_ | refine AL.d (AOp.call rfl rfl (hb.pure _)) ?_)) | refine AL.gs ?_ | refine AL.gu ?_) <;> refine AL.es 3 ?_ <;> refine AL.nil ?_) | (refine AW.r 4 ?_ <;> refine AL.d (AOp.build (pl := [(0, 1), (1, 1), (2, 1), (3, 1), (4, 1), (5, 1)]) (z := .st [.int .i64 0, .int .i64 0, .str ⟨#[]⟩, .sl [], .sl [], .sl []]) (by kernel_rfl) rfl rfl rfl) ?_ <;> refine AL.sl 0 ?_ <;> refine AL.es 1 ?_ <;> refine AL.nil ?_) | refine AW.jt ?_ | refine AW.jf ?_ | refine AW.jj (fun hb => ?_) (fun hb => ?_) | refine AW.go ?_ | fail)
      exact AW.retc (.cell 0 rfl rfl (by kernel_rfl) (.tmp rfl .nil)) (List.nil_sublist _) ⟨rfl, rfl⟩
    | true =>
      obtain rfl : FF = (rn, 0) := hFv rfl rfl
      refine Tri.enter 43 Tryd.func21 rfl rfl rfl rfl fun Fr w0 => ?_
      repeat' (first | (refine AW.r 0 ?_ <;> (first | refine AL.d (AOp.box_ro (v := .st [.int .i64 k, .int .i64 ar, .str nm, strs vars, strs args, .sl (kids.map GFml.av)]) rfl rfl) ?_ | refine AL.d (AOp.box_ro rfl rfl) ?_) <;> refine AL.alloc_z (t := 25) zF (by kernel_rfl) rfl rfl fun r => ?_ <;> refine AL.es 1 ?_ <;> refine AL.nil ?_) | (refine AW.r 1 ?_ <;> (first | refine AL.d AOp.la ?_ | refine AL.d (AOp.lw 0) ?_) <;> (first | refine AL.d (AOp.call rfl rfl (hv.pure _)) ?_ | refine AL.d (AOp.call rfl rfl (ha.pure _)) ?_ | refine AL.d (AOp.call rfl rfl (hb.pure _)) ?_) <;> refine AL.es 2 ?_ <;> refine AL.nil ?_) | (refine AW.r 3 ?_ <;> refine AL.es 1 ?_ <;> (first | refine AL.d (AOp.call rfl rfl (hv.pure _)) ?_ | refine AL.d (AOp.call rfl rfl (ha.pure _)) ?_ | refine AL.d (AOp.call rfl rfl (hb.pure _)) ?_) <;> refine AL.es 2 ?_ <;> (first | refine AL.es 1 ?_ | (refine AL.gx (fun hb => ?_) (fun hb => ?_) <;> refine AL.es 1 ?_)) <;> (first | (refine AL.gd ?_; (first | refine AL.d (AOp.call rfl rfl (hv.pure _)) ?_ | refine AL.d (AOp.call rfl rfl (ha.pure _)) ?_ | refine AL.d (AOp.call rfl rfl (hb.pure _)) ?_)) | refine AL.gs ?_ | refine AL.gu ?_) <;> refine AL.es 3 ?_ <;> refine AL.nil ?_) | refine AW.jt ?_ | refine AW.jf ?_ | refine AW.jj (fun hb => ?_) (fun hb => ?_) | refine AW.go ?_ | fail)
      refine AW.cut (fun af ah => af = [(1, .str a), (2, .str b), (3, .at (.st [.int .i64 k, .int .i64 ar, .str nm, strs vars, strs args, .sl (kids.map GFml.av)])), (6, .ref r 0), (23, .bool CP)] ∧ ah = [.box r zF]) ?_ ?_
      · repeat' (first | (refine AW.r 5 ?_ <;> refine AL.es 4 ?_ <;> (first | (refine AL.gd ?_; (first | refine AL.d AOp.la ?_ | refine AL.d (AOp.lw 0) ?_)) | refine AL.gs ?_ | refine AL.gu ?_ | (refine AL.gx (fun hb => ?_) (fun hb => ?_) <;> first | (refine AL.gd ?_; (first | refine AL.d AOp.la ?_ | refine AL.d (AOp.lw 0) ?_)) | refine AL.gs ?_)) <;> refine AL.es 2 ?_ <;> (first | (refine AL.gd ?_; refine AL.d (AOp.call rfl rfl (hc.pure _)) ?_) | refine AL.gs ?_ | refine AL.gu ?_) <;> refine AL.es 2 ?_ <;> refine AL.nil ?_) | refine AW.jt ?_ | refine AW.jf ?_ | refine AW.jj (fun hb => ?_) (fun hb => ?_) | refine AW.go ?_ | fail)
        · exact AW.meet [1, 2, 3, 6, 23] ⟨rfl, rfl⟩
        · have hab : a = b := by
            rw [toList_beq] at hb
            simpa using hb
          rw [hsame hab]
          exact AW.meet [1, 2, 3, 6, 23] ⟨rfl, rfl⟩
      · rintro af ah ⟨rfl, rfl⟩
        cases CP with
        | true =>
          repeat' (first | (refine AW.r 6 ?_ <;> refine AL.d (AOp.build (pl := [(0, 1), (1, 1), (2, 1), (3, 1), (4, 1), (5, 1)]) (z := .st [.int .i64 0, .int .i64 0, .str ⟨#[]⟩, .sl [], .sl [], .sl []]) (by kernel_rfl) rfl rfl rfl) ?_ <;> refine AL.sl 0 ?_ <;> refine AL.es 1 ?_ <;> refine AL.nil ?_) | refine AW.jt ?_ | refine AW.jf ?_ | refine AW.jj (fun hb => ?_) (fun hb => ?_) | refine AW.go ?_ | fail)
          exact AW.retc (.cell 0 rfl rfl (by kernel_rfl) (.tmp rfl .nil)) (List.nil_sublist _) ⟨rfl, rfl⟩
        | false =>
          have hR' : ∀ mb g, Tri Tryd.prog 44 [GFml.st ⟨k, ar, nm, vars, args, kids⟩, .map mb] [.map mb [(.str a, .str b)] g, .box r zF] (D rn.st [.map mb [(.str a, .str b)] g, .box r zF]) := fun mb g => Tri.frameD (ah := [_, _]) [true] (hR mb g)
          repeat' (first | (refine AW.r 7 ?_ <;> (first | refine AL.d AOp.la ?_ | refine AL.d (AOp.lw 0) ?_ | refine AL.d (AOp.lw 1) ?_) <;> refine AL.makeMap rfl fun bm => ?_ <;> refine AL.es 2 ?_ <;> refine AL.insert (i := 0) (kd := .string) (e := 9) rfl rfl rfl rfl (by kernel_rfl) rfl rfl ?_ <;> refine AL.es 1 ?_ <;> (first | refine AL.d (AOp.call rfl rfl (hR' _ _)) ?_ | refine AL.d (AOp.call rfl rfl (hF.pure _)) ?_) <;> (first | refine AL.d (AOp.call rfl rfl (hR' _ _)) ?_ | refine AL.d (AOp.call rfl rfl (hF.pure _)) ?_) <;> refine AL.es 2 ?_ <;> (first | refine AL.sl 0 ?_ | refine AL.sl 1 ?_) <;> refine AL.es 1 ?_ <;> refine AL.nil ?_) | refine AW.jt ?_ | refine AW.jf ?_ | refine AW.jj (fun hb => ?_) (fun hb => ?_) | refine AW.go ?_ | fail)
          exact AW.retc (.cell 1 rfl rfl (by kernel_rfl) (.tmp rfl .nil)) (List.nil_sublist _) ⟨rfl, rfl⟩
end Go.Proofs.YtlpndgodkkndnaaDoor
namespace Go.Proofs.YtlpndgodkkndnaaDoor
open Go.RowKit Go.SX
set_option maxRecDepth 100000
set_option maxHeartbeats 4000000
set_option linter.unusedVariables false
set_option linter.unusedSimpArgs false
theorem ref_Rename (f : GFml) (a b : ByteArray) (ho : f.Ok) (hn : ndF f ≤ 900000) (oa : strOk a) (ob : strOk b) : Tri Tryd.prog 22 [f.st, .str a, .str b] [] (D (.tup [(renP a b f).st, .int .i64 (renE a b f)]) []) := by
  have hv := ref_Valid f ho hn
  have ha := ref_Name a oa
  have hb := ref_Name b ob
  have hc := ref_captured a b _ f false (Nat.le_refl _) ho
  have hR := ref_renamed a b _ f (Nat.le_refl _) ho
  unfold renP renE
  generalize rnF a b f = rn at *
  generalize cpF a b f false = CP at *
  generalize validF f = V at *
  generalize nameB a = NA at *
  generalize nameB b = NB at *
  obtain ⟨k, ar, nm, vars, args, kids⟩ := f
  cases V with
  | false =>
    refine Tri.enter 33 Tryd.func22 rfl rfl rfl rfl fun Fr w0 => ?_
    repeat' (first | (refine AW.r 0 ?_ <;> (first | refine AL.d (AOp.box_ro (v := .st [.int .i64 k, .int .i64 ar, .str nm, strs vars, strs args, .sl (kids.map GFml.av)]) rfl rfl) ?_ | refine AL.d (AOp.box_ro rfl rfl) ?_) <;> refine AL.alloc_z (t := 25) zF (by kernel_rfl) rfl rfl fun r => ?_ <;> refine AL.es 1 ?_ <;> refine AL.nil ?_) | (refine AW.r 1 ?_ <;> (first | refine AL.d AOp.la ?_ | refine AL.d (AOp.lw 0) ?_) <;> refine AL.d (AOp.call rfl rfl (hv.pure _)) ?_ <;> refine AL.es 2 ?_ <;> refine AL.nil ?_) | (refine AW.r 2 ?_ <;> refine AL.d (AOp.build (pl := [(0, 1), (1, 1), (2, 1), (3, 1), (4, 1), (5, 1)]) (z := .st [.int .i64 0, .int .i64 0, .str ⟨#[]⟩, .sl [], .sl [], .sl []]) (by kernel_rfl) rfl rfl rfl) ?_ <;> refine AL.sl 0 ?_ <;> refine AL.es 1 ?_ <;> refine AL.nil ?_) | refine AW.jt ?_ | refine AW.jf ?_ | refine AW.jj (fun hb => ?_) (fun hb => ?_) | refine AW.go ?_ | fail)
    exact AW.retc (.cell 0 rfl rfl (by kernel_rfl) (.tmp rfl .nil)) (List.nil_sublist _) ⟨rfl, rfl⟩
  | true =>
    cases NA with
    | false =>
      refine Tri.enter 33 Tryd.func22 rfl rfl rfl rfl fun Fr w0 => ?_
      repeat' (first | (refine AW.r 0 ?_ <;> (first | refine AL.d (AOp.box_ro (v := .st [.int .i64 k, .int .i64 ar, .str nm, strs vars, strs args, .sl (kids.map GFml.av)]) rfl rfl) ?_ | refine AL.d (AOp.box_ro rfl rfl) ?_) <;> refine AL.alloc_z (t := 25) zF (by kernel_rfl) rfl rfl fun r => ?_ <;> refine AL.es 1 ?_ <;> refine AL.nil ?_) | (refine AW.r 1 ?_ <;> (first | refine AL.d AOp.la ?_ | refine AL.d (AOp.lw 0) ?_) <;> (first | refine AL.d (AOp.call rfl rfl (hv.pure _)) ?_ | refine AL.d (AOp.call rfl rfl (ha.pure _)) ?_ | refine AL.d (AOp.call rfl rfl (hb.pure _)) ?_) <;> refine AL.es 2 ?_ <;> refine AL.nil ?_) | (refine AW.r 3 ?_ <;> refine AL.es 1 ?_ <;> (first | refine AL.d (AOp.call rfl rfl (hv.pure _)) ?_ | refine AL.d (AOp.call rfl rfl (ha.pure _)) ?_ | refine AL.d (AOp.call rfl rfl (hb.pure _)) ?_) <;> refine AL.es 2 ?_ <;> (first | refine AL.es 1 ?_ | (refine AL.gx (fun hb => ?_) (fun hb => ?_) <;> refine AL.es 1 ?_)) <;> (first | (refine AL.gd ?_; (first | refine AL.d (AOp.call rfl rfl (hv.pure _)) ?_ | refine AL.d (AOp.call rfl rfl (ha.pure _)) ?_ | refine AL.d (AOp.call rfl rfl (hb.pure _)) ?_)) | refine AL.gs ?_ | refine AL.gu ?_) <;> refine AL.es 3 ?_ <;> refine AL.nil ?_) | (refine AW.r 4 ?_ <;> refine AL.d (AOp.build (pl := [(0, 1), (1, 1), (2, 1), (3, 1), (4, 1), (5, 1)]) (z := .st [.int .i64 0, .int .i64 0, .str ⟨#[]⟩, .sl [], .sl [], .sl []]) (by kernel_rfl) rfl rfl rfl) ?_ <;> refine AL.sl 0 ?_ <;> refine AL.es 1 ?_ <;> refine AL.nil ?_) | refine AW.jt ?_ | refine AW.jf ?_ | refine AW.jj (fun hb => ?_) (fun hb => ?_) | refine AW.go ?_ | fail)
      exact AW.retc (.cell 0 rfl rfl (by kernel_rfl) (.tmp rfl .nil)) (List.nil_sublist _) ⟨rfl, rfl⟩
    | true =>
    cases NB with
    | false =>
      refine Tri.enter 33 Tryd.func22 rfl rfl rfl rfl fun Fr w0 => ?_
      repeat' (first | (refine AW.r 0 ?_ <;> (first | refine AL.d (AOp.box_ro (v := .st [.int .i64 k, .int .i64 ar, .str nm, strs vars, strs args, .sl (kids.map GFml.av)]) rfl rfl) ?_ | refine AL.d (AOp.box_ro rfl rfl) ?_) <;> refine AL.alloc_z (t := 25) zF (by kernel_rfl) rfl rfl fun r => ?_ <;> refine AL.es 1 ?_ <;> refine AL.nil ?_) | (refine AW.r 1 ?_ <;> (first | refine AL.d AOp.la ?_ | refine AL.d (AOp.lw 0) ?_) <;> (first | refine AL.d (AOp.call rfl rfl (hv.pure _)) ?_ | refine AL.d (AOp.call rfl rfl (ha.pure _)) ?_ | refine AL.d (AOp.call rfl rfl (hb.pure _)) ?_) <;> refine AL.es 2 ?_ <;> refine AL.nil ?_) | (refine AW.r 3 ?_ <;> refine AL.es 1 ?_ <;> (first | refine AL.d (AOp.call rfl rfl (hv.pure _)) ?_ | refine AL.d (AOp.call rfl rfl (ha.pure _)) ?_ | refine AL.d (AOp.call rfl rfl (hb.pure _)) ?_) <;> refine AL.es 2 ?_ <;> (first | refine AL.es 1 ?_ | (refine AL.gx (fun hb => ?_) (fun hb => ?_) <;> refine AL.es 1 ?_)) <;> (first | (refine AL.gd ?_; (first | refine AL.d (AOp.call rfl rfl (hv.pure _)) ?_ | refine AL.d (AOp.call rfl rfl (ha.pure _)) ?_ | refine AL.d (AOp.call rfl rfl (hb.pure _)) ?_)) | refine AL.gs ?_ | refine AL.gu ?_) <;> refine AL.es 3 ?_ <;> refine AL.nil ?_) | (refine AW.r 4 ?_ <;> refine AL.d (AOp.build (pl := [(0, 1), (1, 1), (2, 1), (3, 1), (4, 1), (5, 1)]) (z := .st [.int .i64 0, .int .i64 0, .str ⟨#[]⟩, .sl [], .sl [], .sl []]) (by kernel_rfl) rfl rfl rfl) ?_ <;> refine AL.sl 0 ?_ <;> refine AL.es 1 ?_ <;> refine AL.nil ?_) | refine AW.jt ?_ | refine AW.jf ?_ | refine AW.jj (fun hb => ?_) (fun hb => ?_) | refine AW.go ?_ | fail)
      exact AW.retc (.cell 0 rfl rfl (by kernel_rfl) (.tmp rfl .nil)) (List.nil_sublist _) ⟨rfl, rfl⟩
    | true =>
    cases CP with
    | true =>
      refine Tri.enter 33 Tryd.func22 rfl rfl rfl rfl fun Fr w0 => ?_
      repeat' (first | (refine AW.r 0 ?_ <;> (first | refine AL.d (AOp.box_ro (v := .st [.int .i64 k, .int .i64 ar, .str nm, strs vars, strs args, .sl (kids.map GFml.av)]) rfl rfl) ?_ | refine AL.d (AOp.box_ro rfl rfl) ?_) <;> refine AL.alloc_z (t := 25) zF (by kernel_rfl) rfl rfl fun r => ?_ <;> refine AL.es 1 ?_ <;> refine AL.nil ?_) | (refine AW.r 1 ?_ <;> (first | refine AL.d AOp.la ?_ | refine AL.d (AOp.lw 0) ?_) <;> (first | refine AL.d (AOp.call rfl rfl (hv.pure _)) ?_ | refine AL.d (AOp.call rfl rfl (ha.pure _)) ?_ | refine AL.d (AOp.call rfl rfl (hb.pure _)) ?_ | refine AL.d (AOp.call rfl rfl (hc.pure _)) ?_) <;> refine AL.es 2 ?_ <;> refine AL.nil ?_) | (refine AW.r 3 ?_ <;> refine AL.es 1 ?_ <;> (first | refine AL.d (AOp.call rfl rfl (hv.pure _)) ?_ | refine AL.d (AOp.call rfl rfl (ha.pure _)) ?_ | refine AL.d (AOp.call rfl rfl (hb.pure _)) ?_ | refine AL.d (AOp.call rfl rfl (hc.pure _)) ?_) <;> refine AL.es 2 ?_ <;> (first | refine AL.es 1 ?_ | (refine AL.gx (fun hb => ?_) (fun hb => ?_) <;> refine AL.es 1 ?_)) <;> (first | (refine AL.gd ?_; (first | refine AL.d (AOp.call rfl rfl (hv.pure _)) ?_ | refine AL.d (AOp.call rfl rfl (ha.pure _)) ?_ | refine AL.d (AOp.call rfl rfl (hb.pure _)) ?_ | refine AL.d (AOp.call rfl rfl (hc.pure _)) ?_)) | refine AL.gs ?_ | refine AL.gu ?_) <;> refine AL.es 3 ?_ <;> refine AL.nil ?_) | (refine AW.r 5 ?_ <;> (first | refine AL.d AOp.la ?_ | refine AL.d (AOp.lw 0) ?_) <;> refine AL.es 2 ?_ <;> (first | refine AL.d (AOp.call rfl rfl (hv.pure _)) ?_ | refine AL.d (AOp.call rfl rfl (ha.pure _)) ?_ | refine AL.d (AOp.call rfl rfl (hb.pure _)) ?_ | refine AL.d (AOp.call rfl rfl (hc.pure _)) ?_) <;> refine AL.es 1 ?_ <;> refine AL.nil ?_) | (refine AW.r 6 ?_ <;> refine AL.d (AOp.build (pl := [(0, 1), (1, 1), (2, 1), (3, 1), (4, 1), (5, 1)]) (z := .st [.int .i64 0, .int .i64 0, .str ⟨#[]⟩, .sl [], .sl [], .sl []]) (by kernel_rfl) rfl rfl rfl) ?_ <;> refine AL.sl 0 ?_ <;> refine AL.es 1 ?_ <;> refine AL.nil ?_) | refine AW.jt ?_ | refine AW.jf ?_ | refine AW.jj (fun hb => ?_) (fun hb => ?_) | refine AW.go ?_ | fail)
      exact AW.retc (.cell 0 rfl rfl (by kernel_rfl) (.tmp rfl .nil)) (List.nil_sublist _) ⟨rfl, rfl⟩
    | false =>
      refine Tri.enter 33 Tryd.func22 rfl rfl rfl rfl fun Fr w0 => ?_
      repeat' (first | (refine AW.r 0 ?_ <;> (first | refine AL.d (AOp.box_ro (v := .st [.int .i64 k, .int .i64 ar, .str nm, strs vars, strs args, .sl (kids.map GFml.av)]) rfl rfl) ?_ | refine AL.d (AOp.box_ro rfl rfl) ?_) <;> refine AL.alloc_z (t := 25) zF (by kernel_rfl) rfl rfl fun r => ?_ <;> refine AL.es 1 ?_ <;> refine AL.nil ?_) | (refine AW.r 1 ?_ <;> (first | refine AL.d AOp.la ?_ | refine AL.d (AOp.lw 0) ?_) <;> (first | refine AL.d (AOp.call rfl rfl (hv.pure _)) ?_ | refine AL.d (AOp.call rfl rfl (ha.pure _)) ?_ | refine AL.d (AOp.call rfl rfl (hb.pure _)) ?_ | refine AL.d (AOp.call rfl rfl (hc.pure _)) ?_ | refine AL.d (AOp.call rfl rfl (hR.pure _)) ?_) <;> refine AL.es 2 ?_ <;> refine AL.nil ?_) | (refine AW.r 3 ?_ <;> refine AL.es 1 ?_ <;> (first | refine AL.d (AOp.call rfl rfl (hv.pure _)) ?_ | refine AL.d (AOp.call rfl rfl (ha.pure _)) ?_ | refine AL.d (AOp.call rfl rfl (hb.pure _)) ?_ | refine AL.d (AOp.call rfl rfl (hc.pure _)) ?_ | refine AL.d (AOp.call rfl rfl (hR.pure _)) ?_) <;> refine AL.es 2 ?_ <;> (first | refine AL.es 1 ?_ | (refine AL.gx (fun hb => ?_) (fun hb => ?_) <;> refine AL.es 1 ?_)) <;> (first | (refine AL.gd ?_; (first | refine AL.d (AOp.call rfl rfl (hv.pure _)) ?_ | refine AL.d (AOp.call rfl rfl (ha.pure _)) ?_ | refine AL.d (AOp.call rfl rfl (hb.pure _)) ?_ | refine AL.d (AOp.call rfl rfl (hc.pure _)) ?_ | refine AL.d (AOp.call rfl rfl (hR.pure _)) ?_)) | refine AL.gs ?_ | refine AL.gu ?_) <;> refine AL.es 3 ?_ <;> refine AL.nil ?_) | (refine AW.r 5 ?_ <;> (first | refine AL.d AOp.la ?_ | refine AL.d (AOp.lw 0) ?_) <;> refine AL.es 2 ?_ <;> (first | refine AL.d (AOp.call rfl rfl (hv.pure _)) ?_ | refine AL.d (AOp.call rfl rfl (ha.pure _)) ?_ | refine AL.d (AOp.call rfl rfl (hb.pure _)) ?_ | refine AL.d (AOp.call rfl rfl (hc.pure _)) ?_ | refine AL.d (AOp.call rfl rfl (hR.pure _)) ?_) <;> refine AL.es 1 ?_ <;> refine AL.nil ?_) | (refine AW.r 7 ?_ <;> (first | refine AL.d AOp.la ?_ | refine AL.d (AOp.lw 0) ?_) <;> refine AL.es 2 ?_ <;> (first | refine AL.d (AOp.call rfl rfl (hv.pure _)) ?_ | refine AL.d (AOp.call rfl rfl (ha.pure _)) ?_ | refine AL.d (AOp.call rfl rfl (hb.pure _)) ?_ | refine AL.d (AOp.call rfl rfl (hc.pure _)) ?_ | refine AL.d (AOp.call rfl rfl (hR.pure _)) ?_) <;> refine AL.sl 0 ?_ <;> refine AL.es 1 ?_ <;> refine AL.nil ?_) | refine AW.jt ?_ | refine AW.jf ?_ | refine AW.jj (fun hb => ?_) (fun hb => ?_) | refine AW.go ?_ | fail)
      exact AW.retc (.cell 0 rfl rfl (by kernel_rfl) (.tmp rfl .nil)) (List.nil_sublist _) ⟨rfl, rfl⟩
theorem renP_ok (f : GFml) (a b : ByteArray) (ho : f.Ok) (ob : strOk b) : (renP a b f).Ok := by
  unfold renP
  cases renE a b f == 0 with
  | true => exact rn_ok a b ob f ho
  | false => exact noF_ok
theorem law_NormRenames (f : GFml) (a b : ByteArray) (ho : f.Ok) (oa : strOk a) (ob : strOk b) : Tri Tryd.prog 6 [f.st, .st [.str a, .str b]] [] (D (.bool true) []) := by
  have hF := few_one 1500 (by omega) f ho
  have hAl := alive
  have oa' := oa
  have ob' := ob
  unfold strOk at oa' ob'
  by_cases hfew : wFs 1500 [f] 0 ≤ 1500
  · rw [decide_eq_true hfew] at hF
    have hnd := few_nd hfew (by omega)
    have hN := n_Rename f a b ho oa ob
    have hR := ref_Rename f a b ho (by omega) oa ob
    have hP := renP_ok f a b ho ob
    have hS := ref_Same _ (renP a b f) (renP a b f) (Nat.le_refl _) hP hP
    rw [eqF_refl] at hS
    generalize renP a b f = P at *
    generalize renE a b f = E at *
    clear hnd hfew
    obtain ⟨k, ar, nm, vars, args, kids⟩ := f
    refine Tri.enter 53 Tryd.func6 rfl rfl rfl rfl fun Fr w0 => ?_
    repeat' (first | (refine AW.r 0 ?_ <;> (first | refine AL.d (AOp.box_ro (v := .st [.int .i64 k, .int .i64 ar, .str nm, strs vars, strs args, .sl (kids.map GFml.av)]) rfl rfl) ?_ | refine AL.d (AOp.box_ro (v := .st [.str a, .str b]) rfl rfl) ?_ | refine AL.d (AOp.box_ro rfl rfl) ?_) <;> (first | refine AL.d (AOp.box_ro (v := .st [.int .i64 k, .int .i64 ar, .str nm, strs vars, strs args, .sl (kids.map GFml.av)]) rfl rfl) ?_ | refine AL.d (AOp.box_ro (v := .st [.str a, .str b]) rfl rfl) ?_ | refine AL.d (AOp.box_ro rfl rfl) ?_) <;> refine AL.es 1 ?_ <;> refine AL.nil ?_) | (refine AW.r 1 ?_ <;> (first | refine AL.d AOp.la ?_ | refine AL.d (AOp.lw 0) ?_) <;> refine AL.d (AOp.lit (e := 25) (sz := 6) (by kernel_rfl) rfl rfl rfl (P_one rfl) (by decide)) ?_ <;> refine AL.d (AOp.call rfl rfl hF) ?_ <;> refine AL.es 2 ?_ <;> (first | (refine AL.gd ?_; (first | refine AL.d AOp.fa ?_ | refine AL.d (AOp.fr 0) ?_)) | refine AL.gs ?_ | refine AL.gu ?_ | (refine AL.gx (fun hb => ?_) (fun hb => ?_) <;> first | (refine AL.gd ?_; (first | refine AL.d AOp.fa ?_ | refine AL.d (AOp.fr 0) ?_)) | refine AL.gs ?_)) <;> (first | (refine AL.gd ?_; (first | refine AL.d AOp.la ?_ | refine AL.d (AOp.ll 0) ?_)) | refine AL.gs ?_ | refine AL.gu ?_) <;> refine AL.es 1 ?_ <;> (first | (refine AL.gd ?_; (first | refine AL.d AOp.fa ?_ | refine AL.d (AOp.fr 1) ?_)) | refine AL.gs ?_ | refine AL.gu ?_) <;> (first | (refine AL.gd ?_; (first | refine AL.d AOp.la ?_ | refine AL.d (AOp.ll 0) ?_)) | refine AL.gs ?_ | refine AL.gu ?_) <;> refine AL.es 1 ?_ <;> (first | (refine AL.gd ?_; (first | refine AL.d (AOp.add rfl rfl (by omega)) ?_ | refine AL.d AOp.ad ?_)) | refine AL.gs ?_ | refine AL.gu ?_) <;> refine AL.es 2 ?_ <;> refine AL.nil ?_) | refine AW.jt ?_ | refine AW.jf ?_ | refine AW.jj (fun hb => ?_) (fun hb => ?_) | refine AW.go ?_ | fail)
    · repeat' (first | (refine AW.r 2 ?_ <;> refine AL.d (AOp.call rfl rfl hAl) ?_ <;> refine AL.es 1 ?_ <;> refine AL.nil ?_) | refine AW.jt ?_ | refine AW.jf ?_ | refine AW.jj (fun hb => ?_) (fun hb => ?_) | refine AW.go ?_ | fail)
      exact AW.retv rfl ⟨rfl, rfl⟩
    · repeat' (first | (refine AW.r 3 ?_ <;> (first | refine AL.d AOp.la ?_ | refine AL.d (AOp.lw 0) ?_) <;> (first | refine AL.d AOp.fa ?_ | refine AL.d (AOp.fr 0) ?_) <;> (first | refine AL.d AOp.la ?_ | refine AL.d (AOp.ll 0) ?_) <;> (first | refine AL.d AOp.fa ?_ | refine AL.d (AOp.fr 1) ?_) <;> (first | refine AL.d AOp.la ?_ | refine AL.d (AOp.ll 0) ?_) <;> refine AL.d (AOp.call rfl rfl hN) ?_ <;> refine AL.es 3 ?_ <;> refine AL.alloc_z (t := 25) zF (by kernel_rfl) rfl rfl fun r5 => ?_ <;> refine AL.sl 0 ?_ <;> refine AL.es 1 ?_ <;> refine AL.nil ?_) | refine AW.jt ?_ | refine AW.jf ?_ | refine AW.jj (fun hb => ?_) (fun hb => ?_) | refine AW.go ?_ | fail)
      repeat' (first | (refine AW.r 4 ?_ <;> (first | refine AL.d AOp.la ?_ | refine AL.d (AOp.lw 0) ?_) <;> (first | refine AL.d AOp.fa ?_ | refine AL.d (AOp.fr 0) ?_) <;> (first | refine AL.d AOp.la ?_ | refine AL.d (AOp.ll 0) ?_) <;> (first | refine AL.d AOp.fa ?_ | refine AL.d (AOp.fr 1) ?_) <;> (first | refine AL.d AOp.la ?_ | refine AL.d (AOp.ll 0) ?_) <;> refine AL.d (AOp.call rfl rfl (hR.pure _)) ?_ <;> refine AL.es 3 ?_ <;> refine AL.alloc_z (t := 25) zF (by kernel_rfl) rfl rfl fun r7 => ?_ <;> refine AL.sl 0 ?_ <;> refine AL.es 1 ?_ <;> refine AL.nil ?_) | refine AW.jt ?_ | refine AW.jf ?_ | refine AW.jj (fun hb => ?_) (fun hb => ?_) | refine AW.go ?_ | fail)
      repeat' (first | (refine AW.r 5 ?_ <;> (first | refine AL.d AOp.la ?_ | refine AL.d (AOp.lw 0) ?_ | refine AL.d (AOp.lw 1) ?_) <;> (first | refine AL.d AOp.la ?_ | refine AL.d (AOp.lw 0) ?_ | refine AL.d (AOp.lw 1) ?_) <;> (first | refine AL.d (AOp.call rfl rfl (hS.pure _)) ?_ | refine AL.d (AOp.call rfl rfl (hAl.pure _)) ?_) <;> refine AL.es 1 ?_ <;> (first | refine AL.es 5 ?_ | (refine AL.gx (fun hb => ?_) (fun hb => ?_) <;> refine AL.es 5 ?_)) <;> (first | (refine AL.gd ?_; (first | refine AL.d (AOp.call rfl rfl (hS.pure _)) ?_ | refine AL.d (AOp.call rfl rfl (hAl.pure _)) ?_)) | refine AL.gs ?_ | refine AL.gu ?_ | (refine AL.gx (fun hb => ?_) (fun hb => ?_) <;> first | (refine AL.gd ?_; (first | refine AL.d (AOp.call rfl rfl (hS.pure _)) ?_ | refine AL.d (AOp.call rfl rfl (hAl.pure _)) ?_)) | refine AL.gs ?_)) <;> refine AL.es 2 ?_ <;> refine AL.nil ?_) | refine AW.jt ?_ | refine AW.jf ?_ | refine AW.jj (fun hb => ?_) (fun hb => ?_) | refine AW.go ?_ | fail)
      · exact AW.ret_drop rfl (List.nil_sublist _) ⟨rfl, rfl⟩
      · simp at hb
  · rw [decide_eq_false hfew] at hF
    obtain ⟨k, ar, nm, vars, args, kids⟩ := f
    refine Tri.enter 53 Tryd.func6 rfl rfl rfl rfl fun Fr w0 => ?_
    repeat' (first | (refine AW.r 0 ?_ <;> (first | refine AL.d (AOp.box_ro (v := .st [.int .i64 k, .int .i64 ar, .str nm, strs vars, strs args, .sl (kids.map GFml.av)]) rfl rfl) ?_ | refine AL.d (AOp.box_ro (v := .st [.str a, .str b]) rfl rfl) ?_ | refine AL.d (AOp.box_ro rfl rfl) ?_) <;> (first | refine AL.d (AOp.box_ro (v := .st [.int .i64 k, .int .i64 ar, .str nm, strs vars, strs args, .sl (kids.map GFml.av)]) rfl rfl) ?_ | refine AL.d (AOp.box_ro (v := .st [.str a, .str b]) rfl rfl) ?_ | refine AL.d (AOp.box_ro rfl rfl) ?_) <;> refine AL.es 1 ?_ <;> refine AL.nil ?_) | (refine AW.r 1 ?_ <;> (first | refine AL.d AOp.la ?_ | refine AL.d (AOp.lw 0) ?_) <;> refine AL.d (AOp.lit (e := 25) (sz := 6) (by kernel_rfl) rfl rfl rfl (P_one rfl) (by decide)) ?_ <;> (first | refine AL.d (AOp.call rfl rfl hF) ?_ | refine AL.d (AOp.call rfl rfl hAl) ?_) <;> refine AL.es 2 ?_ <;> (first | (refine AL.gd ?_; (first | refine AL.d AOp.fa ?_ | refine AL.d (AOp.fr 0) ?_)) | refine AL.gs ?_ | refine AL.gu ?_ | (refine AL.gx (fun hb => ?_) (fun hb => ?_) <;> first | (refine AL.gd ?_; (first | refine AL.d AOp.fa ?_ | refine AL.d (AOp.fr 0) ?_)) | refine AL.gs ?_)) <;> (first | (refine AL.gd ?_; (first | refine AL.d AOp.la ?_ | refine AL.d (AOp.ll 0) ?_)) | refine AL.gs ?_ | refine AL.gu ?_) <;> refine AL.es 1 ?_ <;> (first | (refine AL.gd ?_; (first | refine AL.d AOp.fa ?_ | refine AL.d (AOp.fr 1) ?_)) | refine AL.gs ?_ | refine AL.gu ?_) <;> (first | (refine AL.gd ?_; (first | refine AL.d AOp.la ?_ | refine AL.d (AOp.ll 0) ?_)) | refine AL.gs ?_ | refine AL.gu ?_) <;> refine AL.es 1 ?_ <;> (first | (refine AL.gd ?_; (first | refine AL.d (AOp.add rfl rfl (by omega)) ?_ | refine AL.d AOp.ad ?_)) | refine AL.gs ?_ | refine AL.gu ?_) <;> refine AL.es 2 ?_ <;> refine AL.nil ?_) | (refine AW.r 2 ?_ <;> (first | refine AL.d (AOp.call rfl rfl hF) ?_ | refine AL.d (AOp.call rfl rfl hAl) ?_) <;> refine AL.es 1 ?_ <;> refine AL.nil ?_) | refine AW.jt ?_ | refine AW.jf ?_ | refine AW.jj (fun hb => ?_) (fun hb => ?_) | refine AW.go ?_ | fail)
    exact AW.retv rfl ⟨rfl, rfl⟩
end Go.Proofs.YtlpndgodkkndnaaDoor
namespace Go.Proofs
open Go.Shelf
def Tryd.laysM171_ren : Go.Shelf.Ren := ⟨fun | 171 => 80 | 243 => 94 | 246 => 101 | 283 => 104 | 284 => 105 | 285 => 106 | 286 => 107 | 129 => 109 | 317 => 108 | 318 => 110 | 319 => 111 | 320 => 112 | 337 => 113 | 338 => 114 | n => n, fun | 3 => 3 | 9 => 9 | 2 => 2 | 4 => 4 | 171 => 129 | 0 => 0 | 53 => 130 | 37 => 75 | 5 => 5 | 173 => 133 | 212 => 137 | 51 => 138 | 20 => 20 | 213 => 139 | 46 => 141 | 232 => 144 | 233 => 145 | n => n, fun | 17 => 1 | 18 => 2 | 19 => 3 | n => n⟩
theorem Tryd.laysM171 : Go.Proofs.LaysM.n171 Tryd.prog Tryd.laysM171_ren := {
  mixed := by kernel_rfl
  f129 := Tryd.func109.trans (congrArg some (by kernel_rfl))
  f171 := Tryd.func80.trans (congrArg some (by kernel_rfl))
  f243 := Tryd.func94.trans (congrArg some (by kernel_rfl))
  f246 := Tryd.func101.trans (congrArg some (by kernel_rfl))
  f283 := Tryd.func104.trans (congrArg some (by kernel_rfl))
  f284 := Tryd.func105.trans (congrArg some (by kernel_rfl))
  f285 := Tryd.func106.trans (congrArg some (by kernel_rfl))
  f286 := Tryd.func107.trans (congrArg some (by kernel_rfl))
  f317 := Tryd.func108.trans (congrArg some (by kernel_rfl))
  f318 := Tryd.func110.trans (congrArg some (by kernel_rfl))
  f319 := Tryd.func111.trans (congrArg some (by kernel_rfl))
  f320 := Tryd.func112.trans (congrArg some (by kernel_rfl))
  f337 := Tryd.func113.trans (congrArg some (by kernel_rfl))
  f338 := Tryd.func114.trans (congrArg some (by kernel_rfl))
  t0 := Tryd.underlying0
  a0 := Tryd.isAgg0
  z0 := Tryd.sizeOf0
  v0 := Tryd.zeroValue0
  t2 := Tryd.underlying2
  a2 := Tryd.isAgg2
  z2 := Tryd.sizeOf2
  v2 := Tryd.zeroValue2
  t3 := Tryd.underlying3
  a3 := Tryd.isAgg3
  z3 := Tryd.sizeOf3
  v3 := Tryd.zeroValue3
  t4 := Tryd.underlying4
  a4 := Tryd.isAgg4
  z4 := Tryd.sizeOf4
  v4 := Tryd.zeroValue4
  t5 := Tryd.underlying5
  a5 := Tryd.isAgg5
  z5 := Tryd.sizeOf5
  v5 := Tryd.zeroValue5
  t9 := Tryd.underlying9
  a9 := Tryd.isAgg9
  z9 := Tryd.sizeOf9
  v9 := Tryd.zeroValue9
  t20 := Tryd.underlying20
  a20 := Tryd.isAgg20
  z20 := Tryd.sizeOf20
  v20 := Tryd.zeroValue20
  t37 := Tryd.underlying75
  a37 := Tryd.isAgg75
  z37 := Tryd.sizeOf75
  v37 := Tryd.zeroValue75
  t46 := Tryd.underlying141
  a46 := Tryd.isAgg141
  z46 := Tryd.sizeOf141
  v46 := Tryd.zeroValue141
  t51 := Tryd.underlying138
  a51 := Tryd.isAgg138
  z51 := Tryd.sizeOf138
  v51 := Tryd.zeroValue138
  t53 := Tryd.underlying130
  a53 := Tryd.isAgg130
  z53 := Tryd.sizeOf130
  v53 := Tryd.zeroValue130
  t171 := Tryd.underlying129
  a171 := Tryd.isAgg129
  z171 := Tryd.sizeOf129
  v171 := Tryd.zeroValue129
  t173 := Tryd.underlying133
  a173 := Tryd.isAgg133
  z173 := Tryd.sizeOf133
  v173 := Tryd.zeroValue133
  t212 := Tryd.underlying137
  a212 := Tryd.isAgg137
  z212 := Tryd.sizeOf137
  v212 := Tryd.zeroValue137
  t213 := Tryd.underlying139
  a213 := Tryd.isAgg139
  z213 := Tryd.sizeOf139
  t232 := Tryd.underlying144
  a232 := Tryd.isAgg144
  z232 := Tryd.sizeOf144
  v232 := Tryd.zeroValue144
  t233 := Tryd.underlying145
  a233 := Tryd.isAgg145
  z233 := Tryd.sizeOf145
  v233 := Tryd.zeroValue145
  g17 := by kernel_rfl
  g18 := by kernel_rfl
  g19 := by kernel_rfl
  i0 := by kernel_rfl
  i2 := by kernel_rfl
  i3 := by kernel_rfl
  i4 := by kernel_rfl
  i5 := by kernel_rfl
  i9 := by kernel_rfl
  i20 := by kernel_rfl
  i37 := by kernel_rfl
  i46 := by kernel_rfl
  i51 := by kernel_rfl
  i53 := by kernel_rfl
  i171 := by kernel_rfl
  i173 := by kernel_rfl
  i212 := by kernel_rfl
  i232 := by kernel_rfl
  i233 := by kernel_rfl
  m17 := by kernel_rfl
  m18 := by kernel_rfl
  m19 := by kernel_rfl }
open Go.RowKit Go.Sort Go.Lib in
theorem Tryd.strconv_Itoa (n : Int) (h0 : -9223372036854775808 ≤ n) (h1 : n ≤ 9223372036854775807) (w : World) (htab : Lib.TabIs Tryd.prog w "internal/strconv.uint64pow10" .u64 Lib.pow10Tab) :
    Calls Tryd.prog 80 #[.int .i64 n] w fun e w' => e = .returned (.string ⟨(Lib.itoa n).toArray⟩) ∧ ∃ k os, w' = grow (w.drewN k) os := Any.strconv_Itoa Tryd.laysM171 n h0 h1 w htab
end Go.Proofs
namespace Go.Proofs.YtlpndgodkkndnaaDoor
open Go.RowKit Go.SX
set_option maxRecDepth 100000
set_option maxHeartbeats 4000000
set_option linter.unusedVariables false
set_option linter.unusedSimpArgs false
def tabG : Nat := 1
theorem tabG_eq : Tryd.prog.globalNamed "internal/strconv.uint64pow10" = some tabG := by kernel_rfl
def TB (t : TypeId) : Own := .trow tabG t (Lib.pow10Tab.map (AV.int .u64))
theorem TB_tab {S : Rg} {w : World} {t : TypeId} (h : OwnRel S w (TB t)) : Lib.TabIs Tryd.prog w "internal/strconv.uint64pow10" .u64 Lib.pow10Tab := by
  obtain ⟨cs, h1, h2, h3⟩ := h
  have hcs : cs = (Lib.pow10Tab.map fun z => Value.int .u64 z).toArray := by
    apply Array.ext_getElem?
    intro i
    by_cases hi : i < Lib.pow10Tab.length
    · obtain ⟨v, hv, hr⟩ := h3 i (.int .u64 (Lib.pow10Tab[i])) (by rw [List.getElem?_map, List.getElem?_eq_getElem hi]; rfl)
      simp only [RelC, List.cons.injEq, and_true] at hr
      rw [hv, hr]
      simp [hi]
    · rw [Array.getElem?_eq_none (by rw [h2, List.length_map]; omega), Array.getElem?_eq_none (by simp; omega)]
  show World.var? _ _ _ = _
  unfold World.var?
  rw [tabG_eq, ← hcs, Option.bind_some, h1]
def itoaB (n : Nat) : ByteArray := ⟨(Lib.itoa n).toArray⟩
theorem Itoa_str (t : TypeId) (n : Nat) (hn : n ≤ 9223372036854775807) : Tri Tryd.prog 80 [.int .i64 n] [TB t] (D (.str (itoaB n)) [TB t]) := by
  refine ⟨⟨_, Tryd.func80, rfl, rfl⟩, fun Fr w vs hst hrel => ?_⟩
  simp only [RelVs] at hrel
  obtain ⟨u1, us, rfl, h1, h1', rfl⟩ := hrel
  have hs : u1 = .int .i64 n := Rel.int ⟨h1, h1'⟩
  subst hs
  have htab := TB_tab (hst.rel (TB t) (List.mem_singleton.2 rfl))
  refine (Tryd.strconv_Itoa n (by omega) (by omega) w htab).mono ?_
  rintro e w' ⟨rfl, k, os, rfl⟩
  have hb : Below w.heap.size w (Sort.grow (w.drewN k) os) := ⟨rfl, rfl, rfl, by simp [Sort.grow, World.drewN], fun k hk => by simp [Sort.grow, World.drewN, Array.getElem?_append, hk]⟩
  have hext : Ext (fun _ _ => False) w (Sort.grow (w.drewN k) os) := ⟨hb.os, hb.tape, hb.output, hb.size, fun k hk _ => hb.block k hk, fun ad v hc _ => (World.cell?_of_block (hb.block ad.block (cell_lt hc))).trans hc⟩
  exact ⟨_, _, ⟨rfl, rfl⟩, ⟨_, rfl, mk_str⟩, hst.grow hext, hext.mono fun _ _ h => h.elim, fun _ _ _ h => h⟩
def valD (l : List UInt8) : Nat := l.foldl (fun a c => 10 * a + (c.toNat - 48)) 0
theorem valD_dec : ∀ (N u : Nat), u ≤ N → valD (Lib.decDigits u) = u := by
  intro N
  induction N with
  | zero =>
    intro u hu
    obtain rfl : u = 0 := by omega
    rw [Lib.decDigits, dif_pos (by omega)]; rfl
  | succ N ih =>
    intro u hu
    rw [Lib.decDigits]
    split
    · rename_i h
      simp only [valD, List.foldl_cons, List.foldl_nil]
      have : (UInt8.ofNat (48 + u)).toNat = 48 + u := by rw [UInt8.toNat_ofNat']; omega
      omega
    · rename_i h
      have h1 := ih (u / 10) (by omega)
      simp only [valD, List.foldl_append, List.foldl_cons, List.foldl_nil] at h1 ⊢
      rw [h1]
      have : (UInt8.ofNat (48 + u % 10)).toNat = 48 + u % 10 := by rw [UInt8.toNat_ofNat']; omega
      omega
theorem decD_digit : ∀ (N u : Nat), u ≤ N → ∀ c ∈ Lib.decDigits u, 48 ≤ c.toNat ∧ c.toNat ≤ 57 := by
  intro N
  induction N with
  | zero =>
    intro u hu c hc
    obtain rfl : u = 0 := by omega
    rw [Lib.decDigits, dif_pos (by omega)] at hc
    rw [List.mem_singleton.1 hc, UInt8.toNat_ofNat']; omega
  | succ N ih =>
    intro u hu c hc
    rw [Lib.decDigits] at hc
    split at hc
    · rw [List.mem_singleton.1 hc, UInt8.toNat_ofNat']; omega
    · rcases List.mem_append.1 hc with hc | hc
      · exact ih (u / 10) (by omega) c hc
      · rw [List.mem_singleton.1 hc, UInt8.toNat_ofNat']; omega
theorem decD_len : ∀ (k u : Nat), u < 10 ^ (k + 1) → (Lib.decDigits u).length ≤ k + 1 := by
  intro k
  induction k with
  | zero => intro u hu; rw [Lib.decDigits, dif_pos (by omega)]; simp
  | succ k ih =>
    intro u hu
    rw [Lib.decDigits]
    split
    · simp
    · have := ih (u / 10) (by rw [Nat.pow_succ] at hu; omega)
      simp only [List.length_append, List.length_cons, List.length_nil]; omega
theorem decD_ne : ∀ u : Nat, Lib.decDigits u ≠ [] := by
  intro u h
  rw [Lib.decDigits] at h
  split at h <;> simp at h
def wB (n : Nat) : ByteArray := ⟨#[119]⟩ ++ itoaB n
theorem wB_list (n : Nat) : (wB n).data.toList = 119 :: Lib.decDigits n := by
  rw [wB, itoaB, Lib.itoa_nonneg, ByteArray.data_append, Array.toList_append]; rfl
theorem wB_inj {m n : Nat} (h : wB m = wB n) : m = n := by
  have h1 := congrArg (fun b => b.data.toList) h
  simp only [wB_list, List.cons.injEq, true_and] at h1
  rw [← valD_dec m m (Nat.le_refl _), h1, valD_dec n n (Nat.le_refl _)]
theorem wB_size (n : Nat) (hn : n < 10000000000) : (wB n).size ≤ 11 := by
  have h : (wB n).size = (wB n).data.toList.length := rfl
  have := decD_len 9 n (by omega)
  rw [h, wB_list, List.length_cons]; omega
theorem wB_ok (n : Nat) (hn : n < 10000000000) : strOk (wB n) := by
  have := wB_size n hn
  show (wB n).size ≤ _; omega
end Go.Proofs.YtlpndgodkkndnaaDoor
namespace Go.Proofs.YtlpndgodkkndnaaDoor
open Go.RowKit Go.SX
set_option maxRecDepth 100000
set_option maxHeartbeats 4000000
set_option linter.unusedVariables false
set_option linter.unusedSimpArgs false
theorem has_mem {l : List ByteArray} {s : ByteArray} : has l s = true ↔ s ∈ l := by
  unfold has
  rw [List.any_eq_true]
  constructor
  · rintro ⟨x, hx, h⟩
    rw [← of_decide_eq_true h]; exact hx
  · intro h; exact ⟨s, h, by simp⟩
theorem has_not {l : List ByteArray} {s : ByteArray} : has l s = false ↔ s ∉ l := by
  rw [← has_mem, Bool.not_eq_true]
theorem wB_name (n : Nat) (hn : n < 10000000000) : nameB (wB n) = true := by
  have hl := wB_list n
  have hs := wB_size n hn
  have hsz : (wB n).size = (Lib.decDigits n).length + 1 := by
    have h : (wB n).size = (wB n).data.toList.length := rfl
    rw [h, hl, List.length_cons]
  have hb : ∀ i, byteAt (wB n) i = ((((119 : UInt8) :: Lib.decDigits n)[i]?).map (·.toNat)).getD 0 := by
    intro i
    rw [← hl]
    unfold byteAt
    by_cases hi : i < (wB n).size
    · rw [getElem?_pos (wB n) i hi, List.getElem?_eq_getElem (by show i < (wB n).data.toList.length; exact hi)]
      rfl
    · rw [getElem?_neg (wB n) i hi, List.getElem?_eq_none (by show (wB n).data.toList.length ≤ i; exact Nat.le_of_not_lt hi)]
      rfl
  have hw : wordB (wB n) = false := by
    have ne : ∀ (c : UInt8) (l : List UInt8), c ≠ 119 → decide (wB n = ⟨(c :: l).toArray⟩) = false := by
      intro c l hc
      refine decide_eq_false fun h => ?_
      have := congrArg (fun b => b.data.toList) h
      simp only [hl] at this
      injection this with h1 _
      exact hc h1.symm
    unfold wordB
    rw [ne 97 [110, 100] (by decide), ne 111 [114] (by decide), ne 110 [111, 116] (by decide), ne 115 [111, 109, 101] (by decide), ne 97 [108, 108] (by decide), ne 108 [102, 112] (by decide), ne 112 [102, 112] (by decide), ne 116 [99] (by decide), ne 101 [120, 105, 115, 116, 115] (by decide), ne 116 [114, 117, 101] (by decide), ne 102 [97, 108, 115, 101] (by decide)]
    rfl
  unfold nameB
  rw [hw, decide_eq_true (by omega : 0 < (wB n).size), decide_eq_true (by omega : (wB n).size ≤ 12)]
  have h0 : letterB (byteAt (wB n) 0) = true := by rw [hb 0]; show letterB 119 = true; decide
  rw [h0]
  simp only [Bool.true_and, Bool.not_false, List.all_eq_true, List.mem_range]
  intro i hi
  cases i with
  | zero => rw [h0]; rfl
  | succ i =>
    rw [hb, List.getElem?_cons_succ, List.getElem?_eq_getElem (by omega)]
    have := decD_digit n n (Nat.le_refl _) _ (List.getElem_mem (l := Lib.decDigits n) (n := i) (by omega))
    simp only [Option.map_some, Option.getD_some, digitB]
    rw [decide_eq_true (by omega), decide_eq_true (by omega)]
    simp
def frN (tk : List ByteArray) : Nat → Nat → Nat
  | 0, n => n
  | k + 1, n => bif has tk (wB n) then frN tk k (n + 1) else n
theorem frN_spec (tk : List ByteArray) : ∀ (k n : Nat), n ≤ frN tk k n ∧ frN tk k n ≤ n + k ∧ (∀ i, n ≤ i → i < frN tk k n → has tk (wB i) = true) ∧ (frN tk k n < n + k → has tk (wB (frN tk k n)) = false) := by
  intro k
  induction k with
  | zero => intro n; simp only [frN]; exact ⟨by omega, by omega, by intros; omega, by omega⟩
  | succ k ih =>
    intro n
    rw [frN]
    cases h : has tk (wB n) with
    | true =>
      obtain ⟨h1, h2, h3, h4⟩ := ih (n + 1)
      simp only [cond_true]
      refine ⟨by omega, by omega, fun i hi hlt => ?_, fun hlt => h4 (by omega)⟩
      by_cases e : i = n
      · rw [e, h]
      · exact h3 i (by omega) hlt
    | false =>
      simp only [cond_false]
      exact ⟨by omega, by omega, by intros; omega, fun _ => h⟩
theorem pigeon : ∀ (k n : Nat) (tk : List ByteArray), (∀ i, n ≤ i → i < n + k → wB i ∈ tk) → k ≤ tk.length := by
  intro k
  induction k with
  | zero => intros; omega
  | succ k ih =>
    intro n tk h
    have h0 := h n (by omega) (by omega)
    have := ih (n + 1) (tk.filter fun x => !decide (x = wB n)) fun i h1 h2 => List.mem_filter.2 ⟨h i (by omega) (by omega), by
      rw [decide_eq_false (by intro e; have := wB_inj e; omega)]; rfl⟩
    have h2 : (tk.filter fun x => !decide (x = wB n)).length < tk.length := List.length_filter_lt_length_iff_exists.2 ⟨_, h0, by simp⟩
    omega
def frS (tk : List ByteArray) (n : Nat) : Nat := frN tk (tk.length + 1) n
theorem frS_spec (tk : List ByteArray) (n : Nat) : n ≤ frS tk n ∧ frS tk n ≤ n + tk.length ∧ (∀ i, n ≤ i → i < frS tk n → has tk (wB i) = true) ∧ has tk (wB (frS tk n)) = false := by
  obtain ⟨h1, h2, h3, h4⟩ := frN_spec tk (tk.length + 1) n
  have hlt : frS tk n < n + (tk.length + 1) := by
    by_cases e : frS tk n < n + (tk.length + 1)
    · exact e
    · have := pigeon (tk.length + 1) n tk fun i hi hi2 => has_mem.1 (h3 i hi (by unfold frS at e; omega))
      omega
  exact ⟨h1, by unfold frS at *; omega, h3, h4 hlt⟩
def frL : Nat → List ByteArray → Nat → List ByteArray × Nat
  | 0, _, n => ([], n)
  | k + 1, tk, n => (wB (frS tk n) :: (frL k (tk ++ [wB (frS tk n)]) (frS tk n + 1)).1, (frL k (tk ++ [wB (frS tk n)]) (frS tk n + 1)).2)
theorem frL_len : ∀ (k : Nat) (tk : List ByteArray) (n : Nat), (frL k tk n).1.length = k
  | 0, _, _ => rfl
  | k + 1, tk, n => by rw [frL, List.length_cons, frL_len k]
def Fresh (tk l : List ByteArray) : Prop := l.Nodup ∧ ∀ x ∈ l, x ∉ tk
theorem Fresh.app {tk a b : List ByteArray} (h : Fresh tk a) (k : Fresh (tk ++ a) b) : Fresh tk (a ++ b) := by
  refine ⟨List.nodup_append.2 ⟨h.1, k.1, ?_⟩, ?_⟩
  · rintro x hx y hy rfl
    exact k.2 x hy (List.mem_append_right _ hx)
  · intro x hx
    rcases List.mem_append.1 hx with hx | hx
    · exact h.2 x hx
    · exact fun h2 => k.2 x hx (List.mem_append_left _ h2)
theorem frL_fresh : ∀ (k : Nat) (tk : List ByteArray) (n : Nat), Fresh tk (frL k tk n).1
  | 0, _, _ => ⟨List.nodup_nil, by intro x hx; cases hx⟩
  | k + 1, tk, n => by
    have h := frL_fresh k (tk ++ [wB (frS tk n)]) (frS tk n + 1)
    have h1 : Fresh tk [wB (frS tk n)] := ⟨by simp, by
      intro x hx; rw [List.mem_singleton.1 hx]; exact has_not.1 (frS_spec tk n).2.2.2⟩
    exact h1.app h
theorem frL_bd (T : Nat) : ∀ (k : Nat) (tk : List ByteArray) (n : Nat), tk.length + k ≤ T → n ≤ (frL k tk n).2 ∧ (frL k tk n).2 ≤ n + k * (T + 1) ∧ ∀ x ∈ (frL k tk n).1, ∃ m, m < (frL k tk n).2 ∧ x = wB m
  | 0, _, n, _ => ⟨Nat.le_refl _, by show n ≤ n + 0 * (T + 1); omega, by intro x hx; cases hx⟩
  | k + 1, tk, n, h => by
    obtain ⟨h1, h2, _, _⟩ := frS_spec tk n
    obtain ⟨k1, k2, k3⟩ := frL_bd T k (tk ++ [wB (frS tk n)]) (frS tk n + 1) (by simp; omega)
    rw [frL]
    refine ⟨by (try simp only); omega, ?_, ?_⟩
    · rw [Nat.succ_mul]; (try simp only); omega
    · intro x hx
      rcases List.mem_cons.1 hx with rfl | hx
      · exact ⟨_, by (try simp only); omega, rfl⟩
      · exact k3 x hx
abbrev Sb := ByteArray → Option ByteArray
def rnS (σ : Sb) (v : ByteArray) : ByteArray := (σ v).getD v
def up1 (σ : Sb) (v w : ByteArray) : Sb := fun x => if x = v then some w else σ x
def upV : List ByteArray → List ByteArray → Sb → Sb
  | v :: l, w :: r, σ => upV l r (up1 σ v w)
  | _, _, σ => σ
mutual
def apF : GFml → Sb → List ByteArray → Nat → GFml × List ByteArray × Nat
  | ⟨k, ar, nm, vars, args, kids⟩, σ, tk, n =>
    (⟨k, ar, nm, (frL vars.length tk n).1, args.map (rnS σ), (apL kids (upV vars (frL vars.length tk n).1 σ) (tk ++ (frL vars.length tk n).1) (frL vars.length tk n).2).1⟩,
      (apL kids (upV vars (frL vars.length tk n).1 σ) (tk ++ (frL vars.length tk n).1) (frL vars.length tk n).2).2)
def apL : List GFml → Sb → List ByteArray → Nat → List GFml × List ByteArray × Nat
  | [], _, tk, n => ([], tk, n)
  | x :: l, σ, tk, n => ((apF x σ tk n).1 :: (apL l σ (apF x σ tk n).2.1 (apF x σ tk n).2.2).1, (apL l σ (apF x σ tk n).2.1 (apF x σ tk n).2.2).2)
end
mutual
def bdF : GFml → List ByteArray
  | ⟨_, _, _, vars, _, kids⟩ => vars ++ bdL kids
def bdL : List GFml → List ByteArray
  | [] => []
  | x :: l => bdF x ++ bdL l
end
mutual
theorem ap_tk : ∀ (f : GFml) (σ : Sb) (tk : List ByteArray) (n : Nat), (apF f σ tk n).2.1 = tk ++ bdF (apF f σ tk n).1
  | ⟨k, ar, nm, vars, args, kids⟩, σ, tk, n => by
    rw [apF]
    simp only [bdF]
    rw [ap_tkL kids, List.append_assoc]
theorem ap_tkL : ∀ (l : List GFml) (σ : Sb) (tk : List ByteArray) (n : Nat), (apL l σ tk n).2.1 = tk ++ bdL (apL l σ tk n).1
  | [], σ, tk, n => by simp [apL, bdL]
  | x :: l, σ, tk, n => by
    rw [apL]
    simp only [bdL]
    rw [ap_tkL l, ap_tk x, List.append_assoc]
end
mutual
theorem ap_fresh : ∀ (f : GFml) (σ : Sb) (tk : List ByteArray) (n : Nat), Fresh tk (bdF (apF f σ tk n).1)
  | ⟨k, ar, nm, vars, args, kids⟩, σ, tk, n => by
    rw [apF]
    simp only [bdF]
    exact (frL_fresh _ tk n).app (ap_freshL kids _ _ _)
theorem ap_freshL : ∀ (l : List GFml) (σ : Sb) (tk : List ByteArray) (n : Nat), Fresh tk (bdL (apL l σ tk n).1)
  | [], σ, tk, n => by rw [apL]; exact ⟨List.nodup_nil, by intro x hx; cases hx⟩
  | x :: l, σ, tk, n => by
    rw [apL]
    simp only [bdL]
    have h := ap_freshL l σ (apF x σ tk n).2.1 (apF x σ tk n).2.2
    rw [ap_tk x] at h ⊢
    exact (ap_fresh x σ tk n).app h
end
mutual
theorem ap_er : ∀ (f : GFml) (σ : Sb) (tk : List ByteArray) (n : Nat), erF (apF f σ tk n).1 = erF f
  | ⟨k, ar, nm, vars, args, kids⟩, σ, tk, n => by
    rw [apF]
    simp only [erF]
    rw [ap_erL kids, map_const]
    congr 1
    rw [List.map_const', List.map_const', frL_len]
theorem ap_erL : ∀ (l : List GFml) (σ : Sb) (tk : List ByteArray) (n : Nat), erL (apL l σ tk n).1 = erL l
  | [], σ, tk, n => by rw [apL]
  | x :: l, σ, tk, n => by rw [apL]; simp only [erL]; rw [ap_er x, ap_erL l]
end
theorem ap_lenL : ∀ (l : List GFml) (σ : Sb) (tk : List ByteArray) (n : Nat), (apL l σ tk n).1.length = l.length
  | [], σ, tk, n => by rw [apL]
  | x :: l, σ, tk, n => by rw [apL]; simp only [List.length_cons]; rw [ap_lenL l]
mutual
theorem ap_bd (T : Nat) : ∀ (f : GFml) (σ : Sb) (tk : List ByteArray) (n : Nat), tk.length + (bdF f).length ≤ T → n ≤ (apF f σ tk n).2.2 ∧ (apF f σ tk n).2.2 ≤ n + (bdF f).length * (T + 1) ∧ (bdF (apF f σ tk n).1).length = (bdF f).length
  | ⟨k, ar, nm, vars, args, kids⟩, σ, tk, n, h => by
    rw [bdF, List.length_append] at h ⊢
    obtain ⟨h1, h2, _⟩ := frL_bd T vars.length tk n (by omega)
    obtain ⟨k1, k2, k3⟩ := ap_bdL T kids (upV vars (frL vars.length tk n).1 σ) (tk ++ (frL vars.length tk n).1) (frL vars.length tk n).2 (by rw [List.length_append, frL_len]; omega)
    rw [apF, bdF, List.length_append]
    refine ⟨by (try simp only); omega, ?_, ?_⟩
    · rw [Nat.add_mul]; (try simp only); omega
    · (try simp only); rw [frL_len, k3]
theorem ap_bdL (T : Nat) : ∀ (l : List GFml) (σ : Sb) (tk : List ByteArray) (n : Nat), tk.length + (bdL l).length ≤ T → n ≤ (apL l σ tk n).2.2 ∧ (apL l σ tk n).2.2 ≤ n + (bdL l).length * (T + 1) ∧ (bdL (apL l σ tk n).1).length = (bdL l).length
  | [], σ, tk, n, h => by rw [apL]; exact ⟨Nat.le_refl _, by show n ≤ n + _; omega, rfl⟩
  | x :: l, σ, tk, n, h => by
    rw [bdL, List.length_append] at h ⊢
    obtain ⟨h1, h2, h3⟩ := ap_bd T x σ tk n (by omega)
    obtain ⟨k1, k2, k3⟩ := ap_bdL T l σ (apF x σ tk n).2.1 (apF x σ tk n).2.2 (by rw [ap_tk, List.length_append]; omega)
    rw [apL, bdL, List.length_append]
    refine ⟨by (try simp only); omega, ?_, ?_⟩
    · rw [Nat.add_mul]; (try simp only); omega
    · (try simp only); rw [h3, k3]
end
end Go.Proofs.YtlpndgodkkndnaaDoor
namespace Go.Proofs.YtlpndgodkkndnaaDoor
open Go.RowKit Go.SX
set_option maxRecDepth 100000
set_option maxHeartbeats 4000000
set_option linter.unusedVariables false
set_option linter.unusedSimpArgs false
def nilM : AV := .val (.map none)
theorem n_renamed_nil (l : List ByteArray) (hl : l.length ≤ 8796093021952) :
    Tri Tryd.prog 71 [strs l, nilM] [] (D (strs l) []) := by
  refine Tri.enter 30 Tryd.func71 rfl rfl rfl rfl fun Fr w0 => ?_
  repeat' (first | (refine AW.r 0 ?_ <;> (first | refine AL.d AOp.assign_nil ?_ | refine AL.e ?_) <;> refine AL.nil ?_) | (refine AW.r 1 ?_ <;> (first | refine AL.d AOp.assign_nil ?_ | refine AL.e ?_) <;> refine AL.nil ?_) | (refine AW.r 2 ?_ <;> (first | refine AL.d AOp.assign_nil ?_ | refine AL.e ?_) <;> refine AL.es 1 ?_ <;> (first | refine AL.d AOp.assign_nil ?_ | refine AL.e ?_) <;> refine AL.nil ?_) | refine AW.jt ?_ | refine AW.jf ?_ | refine AW.jj (fun hb => ?_) (fun hb => ?_) | refine AW.go ?_ | fail)
  refine AW.own_nil 1 ?_
  refine AW.prune [1, 5, 10, 11, 12] (AW.loop (fun mz af h => ∃ (i : Nat) (o : List ByteArray) (tt : Option Nat) (cc : Nat), i ≤ l.length ∧ mz = l.length - i ∧ af = [(1, nilM), (5, .slt (o.map AV.str) tt cc), (10, strs l), (11, .int .i64 (l.map AV.str).length), (12, .int .i64 i)] ∧ h = [.tail tt (o.map AV.str).length cc 1] ∧ o = l.take i) l.length ⟨0, [], none, 0, Nat.zero_le _, rfl, rfl, rfl, by simp⟩ ?_)
  rintro mz af h ⟨i, o, tt, cc, hi, rfl, rfl, rfl, he⟩
  refine AW.seq ?_
  by_cases hlt : i < l.length
  · obtain ⟨x, hx⟩ := get_lt hlt
    have hx' : (l.map AV.str)[((i : Nat) : Int).toNat]? = some (.str x) := map_get hx
    have hol : o.length ≤ 8796093021952 := by rw [he]; simp; omega
    have hm : (o ++ [x]).map AV.str = o.map AV.str ++ [.str x] := by simp
    repeat' (first | refine AW.re 3 1 ?_ | (refine AW.r 4 ?_ <;> refine AL.d (AOp.index_sl rfl rfl (by omega) hx' (by kernel_rfl) rfl) ?_ <;> refine AL.es 2 ?_ <;> refine AL.nil ?_) | refine AW.jt ?_ | refine AW.jf ?_ | refine AW.jj (fun hb => ?_) (fun hb => ?_) | refine AW.go ?_ | fail)
    all_goals try (exfalso; simp only [decide_eq_true_eq, decide_eq_false_iff_not, List.length_map] at *; omega)
    repeat' (first | (refine AW.r 5 ?_ <;> refine AL.es 2 ?_ <;> refine AL.d (AOp.lookup_nil (kd := .string) (e := 9) (.string ⟨#[]⟩) (ok := true) rfl rfl (by kernel_rfl) (by kernel_rfl) rfl) ?_ <;> refine AL.es 5 ?_ <;> refine AL.nil ?_) | refine AW.re 6 1 ?_ | (refine AW.r 8 ?_ <;> refine AL.es 2 ?_ <;> refine AL.d (AOp.lit (e := 9) (sz := 1) (by kernel_rfl) rfl rfl rfl (P_one rfl) (by decide)) ?_ <;> refine AL.append (i := 0) (xs := o.map AV.str) (e := 9) (sz := 1) (bytes := 16) rfl rfl rfl rfl (by kernel_rfl) (by kernel_rfl) (P_map fun _ => rfl) (P_one rfl) rfl (by simp only [List.length_map]; simp; omega) (by simp only [List.length_map]; simp; omega) rfl fun b' c' => ?_ <;> refine AL.es 1 ?_ <;> refine AL.nil ?_) | (refine AW.r 9 ?_ <;> refine AL.d AOp.ad ?_ <;> refine AL.es 1 ?_ <;> refine AL.nil ?_) | refine AW.jt ?_ | refine AW.jf ?_ | refine AW.jj (fun hb => ?_) (fun hb => ?_) | refine AW.go ?_ | fail)
    rw [← hm]
    refine AW.frame_eq rfl (show _ = [Own.tail b' ((o ++ [x]).map AV.str).length c' 1] from by rw [hm]; rfl) ?_
    refine AW.again_keep (l.length - (i + 1)) [1, 5, 10, 11, 12] (by omega) ⟨i + 1, o ++ [x], b', c', hlt, rfl, rfl, rfl, ?_⟩
    rw [he, List.take_add_one, hx]; simp
  · have ho2 : o = l := by rw [he, List.take_of_length_le (by omega)]
    subst ho2
    repeat' (first | refine AW.re 3 1 ?_ | refine AW.jt ?_ | refine AW.jf ?_ | refine AW.jj (fun hb => ?_) (fun hb => ?_) | refine AW.go ?_ | fail)
    all_goals try (exfalso; simp only [decide_eq_true_eq, decide_eq_false_iff_not, List.length_map] at *; omega)
    refine AW.as_sl 5 rfl ?_
    repeat' (first | refine AW.re 10 2 ?_ | refine AW.jt ?_ | refine AW.jf ?_ | refine AW.jj (fun hb => ?_) (fun hb => ?_) | refine AW.go ?_ | fail)
    exact AW.ret_drop rfl (List.nil_sublist _) ⟨rfl, rfl⟩
theorem Clone_own (xs : List ByteArray) (hx : xs ≠ []) (hl : xs.length ≤ 8796093021952) : Tri Tryd.prog 91 [strs xs] [] (fun r h => ∃ b c, r = .ret (.osl b xs.length c) ∧ h = [.row b (xs.map AV.str)]) := by
  have hp : 0 < xs.length := List.length_pos_iff.2 hx
  refine Tri.enter 8 Tryd.func91 rfl rfl rfl rfl fun Fr w0 => ?_
  repeat' (first | refine AW.re 0 1 ?_ | refine AW.jt ?_ | refine AW.jf ?_ | refine AW.jj (fun hb => ?_) (fun hb => ?_) | refine AW.go ?_ | fail)
  repeat' (first | (refine AW.r 1 ?_ <;> refine AL.es 1 ?_ <;> (first | refine AL.slice_nil (xs := xs.map AV.str) rfl (by kernel_rfl) rfl fun B hB => ?_ | refine AL.e ?_) <;> refine AL.nil ?_) | refine AW.jt ?_ | refine AW.jf ?_ | refine AW.jj (fun hb => ?_) (fun hb => ?_) | refine AW.go ?_ | fail)
  · have h := hB (by simpa using hx)
    rw [h] at hb; cases hb
  · repeat' (first | (refine AW.r 3 ?_ <;> (first | refine AL.lit_own (e := 9) (sz := 1) (by kernel_rfl) rfl rfl rfl P_nil (by decide) rfl fun b0 => ?_ | refine AL.append_new 0 (e := 9) (bytes := 16) (ys := xs.map AV.str) (n := xs.length) rfl rfl rfl rfl (by rw [List.length_map]) hp (P_map fun _ => rfl) (by kernel_rfl) (by kernel_rfl) (by omega) (by omega) rfl fun b' c' hc' => ?_) <;> (first | refine AL.append_new 0 (e := 9) (bytes := 16) (ys := xs.map AV.str) (n := xs.length) rfl rfl rfl rfl (by rw [List.length_map]) hp (P_map fun _ => rfl) (by kernel_rfl) (by kernel_rfl) (by omega) (by omega) rfl fun b' c' hc' => ?_ | refine AL.e ?_) <;> refine AL.append_new 0 (e := 9) (bytes := 16) (ys := xs.map AV.str) (n := xs.length) rfl rfl rfl rfl (by rw [List.length_map]) hp (P_map fun _ => rfl) (by kernel_rfl) (by kernel_rfl) (by omega) (by omega) rfl fun b' c' hc' => ?_ <;> (first | refine AL.append_new 0 (e := 9) (bytes := 16) (ys := xs.map AV.str) (n := xs.length) rfl rfl rfl rfl (by rw [List.length_map]) hp (P_map fun _ => rfl) (by kernel_rfl) (by kernel_rfl) (by omega) (by omega) rfl fun b' c' hc' => ?_ | refine AL.e ?_) <;> refine AL.nil ?_) | refine AW.jt ?_ | refine AW.jf ?_ | refine AW.jj (fun hb => ?_) (fun hb => ?_) | refine AW.go ?_ | fail)
    exact AW.retv rfl ⟨_, _, rfl, rfl⟩
theorem n_with_own (f : GFml) (hx : f.Vars ≠ []) (ho : f.Ok) : Tri Tryd.prog 70 [f.st, nilS] [] (fun r h => ∃ b c, r = .ret (.st [.int .i64 f.Kind, .int .i64 f.Arity, .str f.Name, .osl b f.Vars.length c, strs f.Args, nilS]) ∧ h = [.row b (f.Vars.map AV.str)]) := by
  obtain ⟨⟨_, _, _, h4, h5⟩, h6, h7⟩ := ho
  have hv := Clone_own f.Vars hx (by have := h4.1; omega)
  have ha := Clone_str f.Args (by have := h5.1; omega)
  obtain ⟨k, ar, nm, vars, args, kids0⟩ := f
  simp only at *
  refine Tri.enter 16 Tryd.func70 rfl rfl rfl rfl fun Fr w0 => ?_
  repeat' (first | (refine AW.r 0 ?_ <;> refine AL.box rfl rfl rfl fun b => ?_ <;> refine AL.alloc_z (t := 25) zF (by kernel_rfl) rfl rfl fun r => ?_ <;> refine AL.nil ?_) | refine AW.jt ?_ | refine AW.jf ?_ | refine AW.jj (fun hb => ?_) (fun hb => ?_) | refine AW.go ?_ | fail)
  repeat' (first | refine AW.jt ?_ | refine AW.jf ?_ | refine AW.jj (fun hb => ?_) (fun hb => ?_) | refine AW.go ?_ | fail)
  refine AW.explore [false, true] [1, 2, 4, 5, 8, 10, 12] rfl (by kernel_rfl) (by kernel_rfl) (by kernel_rfl) (by kernel_rfl) ?_
  refine AQE.op rfl (AOp.fr 3) rfl rfl ?_
  refine AQE.hole rfl rfl ?_
  refine AQE.hole rfl rfl ?_
  refine AQE.op rfl (AOp.fr 4) rfl rfl ?_
  refine AQE.hole rfl rfl ?_
  refine AQE.hole rfl rfl ?_
  refine AQE.ev rfl rfl rfl rfl ?_
  refine AQE.op rfl (AOp.fr 3) rfl rfl ?_
  refine AQE.hole rfl rfl ?_
  refine AQE.op rfl (AOp.fr 4) rfl rfl ?_
  refine AQE.hole rfl rfl ?_
  refine AQE.op rfl (AOp.fr 5) rfl rfl ?_
  refine AQE.hole rfl rfl ?_
  refine AQE.nil ?_
  repeat' (first
    | refine AX.two (n := 6) 1 4 rfl ?_ ?_
    | refine AX.two (n := 5) 2 4 rfl ?_ ?_
    | refine AX.one (n := 5) 1 rfl ?_
    | refine AX.one (n := 4) 2 rfl ?_
    | refine AX.one (n := 4) 4 rfl ?_
    | refine AX.one (n := 3) 5 rfl ?_
    | refine AX.one (n := 2) 8 rfl ?_
    | refine AX.one (n := 1) 10 rfl ?_
    | refine AX.one (n := 0) 12 rfl ?_
    | (refine AXS.step (i := 2) rfl rfl rfl (AOp.call rfl rfl (hv.pureE _)) ?_ (by rintro _ _ ⟨_, ⟨_, _, e, _⟩, _⟩; cases e); rintro _ _ ⟨_, ⟨vb, vc, e, rfl⟩, rfl⟩; injection e with e; subst e; dsimp only [List.set_cons_succ, List.set_cons_zero])
    | (refine AXS.det (i := 1) rfl rfl rfl (AOp.ll 0) ?_; dsimp only [List.set_cons_succ, List.set_cons_zero])
    | (refine AXS.det (i := 4) rfl rfl rfl (AOp.ll 0) ?_; dsimp only [List.set_cons_succ, List.set_cons_zero])
    | (refine AXS.det (i := 4) rfl rfl rfl (AOp.ll 1) ?_; dsimp only [List.set_cons_succ, List.set_cons_zero])
    | (refine AXS.det (i := 5) rfl rfl rfl (AOp.call rfl rfl (ha.pure _)) ?_; dsimp only [List.set_cons_succ, List.set_cons_zero])
    | (refine AXS.at (q := 8) rfl rfl ?_; refine AXO.sl 1 (fun _ => ?_); dsimp only [List.set_cons_succ, List.set_cons_zero])
    | (refine AXS.at (q := 10) rfl rfl ?_; refine AXO.sl 1 (fun _ => ?_); dsimp only [List.set_cons_succ, List.set_cons_zero])
    | (refine AXS.at (q := 12) rfl rfl ?_; refine AXO.sl 1 (fun _ => ?_); dsimp only [List.set_cons_succ, List.set_cons_zero]))
  all_goals
    refine AX.done [(2, .ref b 0), (4, .ref r 0)] rfl ?_
    repeat' (first | (refine AW.r 2 ?_ <;> (first | refine AL.d AOp.la ?_ | refine AL.d (AOp.lw 0) ?_ | refine AL.d (AOp.lw 1) ?_ | refine AL.d (AOp.lw 2) ?_) <;> (first | refine AL.sl 0 ?_ | refine AL.sl 1 ?_ | refine AL.sl 2 ?_) <;> refine AL.nil ?_) | refine AW.jt ?_ | refine AW.jf ?_ | refine AW.jj (fun hb => ?_) (fun hb => ?_) | refine AW.go ?_ | fail)
    exact AW.retc (.cell 2 rfl rfl (by kernel_rfl) .nil) (.cons_cons _ (.cons _ (.cons _ .slnil))) ⟨_, _, rfl, rfl⟩
end Go.Proofs.YtlpndgodkkndnaaDoor
namespace Go.Proofs.YtlpndgodkkndnaaDoor
open Go.RowKit Go.SX
set_option maxRecDepth 100000
set_option maxHeartbeats 4000000
set_option linter.unusedVariables false
set_option linter.unusedSimpArgs false
theorem lookA_bmap (s : ByteArray) : ∀ tk : List ByteArray, lookA (bmap tk) s = if has tk s = true then some true else none
  | [] => rfl
  | x :: tk => by
    have ih := lookA_bmap s tk
    simp only [bmap, List.map_cons, lookA] at ih ⊢
    by_cases e : s = x
    · subst e; simp [has]
    · rw [if_neg e, ih]
      have : has (x :: tk) s = has tk s := by
        unfold has
        rw [List.any_cons, decide_eq_false (fun h => e h.symm), Bool.false_or]
      rw [this]
theorem addV_new {tk : List ByteArray} {v : ByteArray} (h : has tk v = false) : addV tk v = tk ++ [v] := by
  unfold addV; rw [if_neg]; rw [has] at h; rw [h]; decide
def nmAV (mt n : Nat) : AV := .st [.map mt, .int .i64 n]
theorem n_fresh (t : TypeId) (rn mt : Nat) (tk : List ByteArray) (n : Nat) (g : MG) (hb : n + tk.length < 10000000000) :
    Tri Tryd.prog 75 [.ref rn 0] [TB t, .box rn (nmAV mt n), .map mt (kvW bav (bmap tk)) g] (fun r h => r = .ret (.str (wB (frS tk n))) ∧ ∃ g', h = [TB t, .box rn (nmAV mt (frS tk n + 1)), .map mt (kvW bav (bmap (tk ++ [wB (frS tk n)]))) g']) := by
  obtain ⟨hM1, hM2, hM3, hM4⟩ := frS_spec tk n
  generalize frS tk n = M at *
  refine Tri.enter 30 Tryd.func75 rfl rfl rfl rfl fun Fr w0 => ?_
  repeat' (first | refine AW.re 0 1 ?_ | refine AW.jt ?_ | refine AW.jf ?_ | refine AW.jj (fun hb => ?_) (fun hb => ?_) | refine AW.go ?_ | fail)
  refine AW.prune [0] (AW.loop (fun m af h => ∃ j : Nat, n ≤ j ∧ j ≤ M ∧ m = M - j ∧ af = [(0, .ref rn 0)] ∧ h = [TB t, .box rn (nmAV mt j), .map mt (kvW bav (bmap tk)) g]) (M - n) ⟨n, Nat.le_refl _, hM1, rfl, rfl, rfl⟩ ?_)
  rintro m af h ⟨j, hj1, hj2, rfl, rfl, rfl⟩
  have hI : Tri Tryd.prog 80 [.int .i64 j] [TB t, .box rn (nmAV mt j), .map mt (kvW bav (bmap tk)) g] (D (.str (itoaB j)) [TB t, .box rn (nmAV mt j), .map mt (kvW bav (bmap tk)) g]) := Tri.frameD (ah := [_, _, _]) [true] (Itoa_str t j (by omega))
  have hz : (⟨#[119]⟩ : ByteArray).size + (itoaB j).size ≤ 9223372036854775807 := by
    have h1 := wB_size j (by omega)
    rw [wB, ByteArray.size_append] at h1
    omega
  cases hh : has tk (wB j) with
  | true =>
    have hL : lookA (bmap tk) (wB j) = some true := by rw [lookA_bmap, hh]; rfl
    have hlt : j < M := by
      rcases Nat.lt_or_ge j M with h | h
      · exact h
      · obtain rfl : j = M := by omega
        rw [hh] at hM4; cases hM4
    repeat' (first | (refine AW.r 1 ?_ <;> refine AL.es 2 ?_ <;> (first | refine AL.d AOp.fa ?_ | refine AL.d (AOp.fr 1) ?_) <;> (first | refine AL.d AOp.la ?_ | refine AL.d (AOp.ll 0) ?_ | refine AL.d (AOp.ll 1) ?_) <;> refine AL.d (AOp.call rfl rfl hI) ?_ <;> (first | refine AL.d (AOp.str_add (s := ⟨#[119]⟩) (t := itoaB j) rfl rfl hz) ?_ | refine AL.d (AOp.add rfl rfl (by omega)) ?_ | refine AL.d AOp.ad ?_) <;> refine AL.es 1 ?_ <;> refine AL.nil ?_) | (refine AW.r 2 ?_ <;> refine AL.es 2 ?_ <;> (first | refine AL.d AOp.fa ?_ | refine AL.d (AOp.fr 1) ?_) <;> (first | refine AL.d AOp.la ?_ | refine AL.d (AOp.ll 0) ?_ | refine AL.d (AOp.ll 1) ?_) <;> (first | refine AL.d (AOp.str_add (s := ⟨#[119]⟩) (t := itoaB j) rfl rfl hz) ?_ | refine AL.d (AOp.add rfl rfl (by omega)) ?_ | refine AL.d AOp.ad ?_) <;> refine AL.es 1 ?_ <;> (first | refine AL.d AOp.fa ?_ | refine AL.d (AOp.fr 1) ?_) <;> (first | refine AL.sl 0 ?_ | refine AL.sl 1 ?_) <;> refine AL.nil ?_) | (refine AW.r 3 ?_ <;> refine AL.es 2 ?_ <;> (first | refine AL.d AOp.fa ?_ | refine AL.d (AOp.fr 0) ?_) <;> (first | refine AL.d AOp.la ?_ | refine AL.d (AOp.ll 0) ?_ | refine AL.d (AOp.ll 1) ?_) <;> refine AL.es 1 ?_ <;> refine AL.d (AOp.lookS_hit 2 4 (g := bav) (ok := false) hL rfl rfl rfl (by kernel_rfl)) ?_ <;> refine AL.es 1 ?_ <;> refine AL.nil ?_) | refine AW.jt ?_ | refine AW.jf ?_ | refine AW.jj (fun hb => ?_) (fun hb => ?_) | refine AW.go ?_ | fail)
    exact AW.again_keep (M - (j + 1)) [0] (by omega) ⟨j + 1, by omega, by omega, rfl, rfl, rfl⟩
  | false =>
    have hL : lookA (bmap tk) (wB j) = none := by rw [lookA_bmap, hh]; rfl
    obtain rfl : j = M := by
      rcases Nat.lt_or_ge j M with h | h
      · rw [hM3 j hj1 h] at hh; cases hh
      · omega
    repeat' (first | (refine AW.r 1 ?_ <;> refine AL.es 2 ?_ <;> (first | refine AL.d AOp.fa ?_ | refine AL.d (AOp.fr 1) ?_) <;> (first | refine AL.d AOp.la ?_ | refine AL.d (AOp.ll 0) ?_ | refine AL.d (AOp.ll 1) ?_) <;> refine AL.d (AOp.call rfl rfl hI) ?_ <;> (first | refine AL.d (AOp.str_add (s := ⟨#[119]⟩) (t := itoaB j) rfl rfl hz) ?_ | refine AL.d (AOp.add rfl rfl (by omega)) ?_ | refine AL.d AOp.ad ?_) <;> refine AL.es 1 ?_ <;> refine AL.nil ?_) | (refine AW.r 2 ?_ <;> refine AL.es 2 ?_ <;> (first | refine AL.d AOp.fa ?_ | refine AL.d (AOp.fr 1) ?_) <;> (first | refine AL.d AOp.la ?_ | refine AL.d (AOp.ll 0) ?_ | refine AL.d (AOp.ll 1) ?_) <;> (first | refine AL.d (AOp.str_add (s := ⟨#[119]⟩) (t := itoaB j) rfl rfl hz) ?_ | refine AL.d (AOp.add rfl rfl (by omega)) ?_ | refine AL.d AOp.ad ?_) <;> refine AL.es 1 ?_ <;> (first | refine AL.d AOp.fa ?_ | refine AL.d (AOp.fr 1) ?_) <;> (first | refine AL.sl 0 ?_ | refine AL.sl 1 ?_) <;> refine AL.nil ?_) | (refine AW.r 3 ?_ <;> refine AL.es 2 ?_ <;> (first | refine AL.d AOp.fa ?_ | refine AL.d (AOp.fr 0) ?_) <;> (first | refine AL.d AOp.la ?_ | refine AL.d (AOp.ll 0) ?_ | refine AL.d (AOp.ll 1) ?_) <;> refine AL.es 1 ?_ <;> refine AL.d (AOp.lookS_miss 2 4 (.bool false) (ok := false) hL rfl rfl rfl (by kernel_rfl) (by kernel_rfl)) ?_ <;> refine AL.es 1 ?_ <;> refine AL.nil ?_) | (refine AW.r 4 ?_ <;> refine AL.es 2 ?_ <;> (first | refine AL.d AOp.fa ?_ | refine AL.d (AOp.fr 0) ?_) <;> (first | refine AL.d AOp.la ?_ | refine AL.d (AOp.ll 0) ?_ | refine AL.d (AOp.ll 1) ?_) <;> refine AL.es 1 ?_ <;> refine AL.setS 2 4 bav true rfl rfl rfl rfl (by kernel_rfl) ?_ <;> refine AL.nil ?_) | refine AW.re 5 2 ?_ | refine AW.jt ?_ | refine AW.jf ?_ | refine AW.jj (fun hb => ?_) (fun hb => ?_) | refine AW.go ?_ | fail)
    rw [setA_bmap]
    have ha : addV tk (wB j) = tk ++ [wB j] := addV_new hh
    refine AW.frame_eq rfl (show _ = [TB t, Own.box rn (nmAV mt (j + 1)), .map mt (kvW bav (bmap (tk ++ [wB j]))) _] from by rw [← ha]; rfl) ?_
    exact AW.retv rfl ⟨rfl, _, rfl⟩
end Go.Proofs.YtlpndgodkkndnaaDoor
namespace Go.Proofs.YtlpndgodkkndnaaDoor
open Go.RowKit Go.SX
set_option maxRecDepth 100000
set_option maxHeartbeats 4000000
set_option linter.unusedVariables false
set_option linter.unusedSimpArgs false
theorem vrL_snoc (x : GFml) : ∀ (l : List GFml) (out : List ByteArray), vrL (l ++ [x]) out = vrF x (vrL l out)
  | [], out => by rw [List.nil_append, vrL, vrL, vrL]
  | y :: l, out => by rw [List.cons_append, vrL, vrL, vrL_snoc x l]
theorem n_newNamer (fs : List GFml) (hl : fs.length ≤ 1353245080300) (ho : ∀ x ∈ fs, x.Ok) :
    Tri Tryd.prog 48 [.sl (fs.map GFml.av)] [] (fun r h => ∃ rn mt g, r = .ret (.ref rn 0) ∧ h = [.map mt (kvW bav (bmap (vrL fs []))) g, .box rn (nmAV mt 0)]) := by
  refine Tri.enter 23 Tryd.func48 rfl rfl rfl rfl fun Fr w0 => ?_
  repeat' (first | refine AW.re 0 1 ?_ | refine AW.jt ?_ | refine AW.jf ?_ | refine AW.jj (fun hb => ?_) (fun hb => ?_) | refine AW.go ?_ | fail)
  repeat' (first | (refine AW.r 1 ?_ <;> refine AL.makeMap rfl fun mt => ?_ <;> (first | refine AL.d (AOp.build (pl := [(0, 1), (1, 1)]) (z := .st [nilM, .int .i64 0]) (by kernel_rfl) rfl rfl rfl) ?_ | refine AL.d (AOp.build (pl := [(0, 1), (1, 1)]) (z := .st [.val (.map none), .int .i64 0]) (by kernel_rfl) rfl rfl rfl) ?_) <;> refine AL.box rfl rfl rfl fun rn => ?_ <;> refine AL.es 1 ?_ <;> refine AL.nil ?_) | refine AW.re 2 3 ?_ | refine AW.jt ?_ | refine AW.jf ?_ | refine AW.jj (fun hb => ?_) (fun hb => ?_) | refine AW.go ?_ | fail)
  refine AW.perm (b := [.map mt [] ⟨[], 0⟩, .box rn (nmAV mt 0)]) (.swap _ _ _) ?_
  refine AW.prune [3, 9, 10, 11] (AW.loop (fun mz af h => ∃ (i : Nat) (o : List ByteArray) (gg : MG), i ≤ fs.length ∧ mz = fs.length - i ∧ af = [(3, .ref rn 0), (9, .sl (fs.map GFml.av)), (10, .int .i64 (fs.map GFml.av).length), (11, .int .i64 i)] ∧ h = [.map mt (kvW bav (bmap o)) gg, .box rn (nmAV mt 0)] ∧ o = vrL (fs.take i) []) fs.length ⟨0, [], ⟨[], 0⟩, Nat.zero_le _, rfl, rfl, rfl, by simp [vrL]⟩ ?_)
  rintro mz af h ⟨i, o, gg, hi, rfl, rfl, rfl, he⟩
  refine AW.seq ?_
  by_cases hlt : i < fs.length
  · obtain ⟨x, hx⟩ := get_lt hlt
    have hx' : (fs.map GFml.av)[((i : Nat) : Int).toNat]? = some (x.st) := GFml.get hx
    repeat' (first | refine AW.re 3 1 ?_ | refine AW.jt ?_ | refine AW.jf ?_ | refine AW.jj (fun hb => ?_) (fun hb => ?_) | refine AW.go ?_ | fail)
    all_goals try (exfalso; simp only [decide_eq_true_eq, decide_eq_false_iff_not, List.length_map] at *; omega)
    repeat' (first | (refine AW.r 4 ?_ <;> refine AL.d (AOp.index_sl rfl rfl (by omega) hx' (by kernel_rfl) rfl) ?_ <;> (first | refine AL.d AOp.la ?_ | refine AL.d (AOp.lw 0) ?_ | refine AL.d (AOp.lw 1) ?_) <;> refine AL.alloc_z (t := 25) zF (by kernel_rfl) rfl rfl fun r5 => ?_ <;> (first | refine AL.sl 0 ?_ | refine AL.sl 1 ?_) <;> refine AL.nil ?_) | refine AW.jt ?_ | refine AW.jf ?_ | refine AW.jj (fun hb => ?_) (fun hb => ?_) | refine AW.go ?_ | fail)
    have hc := Tri.frame (ah := [.box r5 x.st, .map mt (kvW bav (bmap o)) gg, .box rn (nmAV mt 0)]) [false, true] (n_vars _ x o mt gg (Nat.le_refl _) (ho x (List.mem_of_getElem? hx)))
    repeat' (first | (refine AW.dl 5 5 ?_ <;> (first | refine AQ.p rfl AOp.la ?_ | refine AQ.p rfl (AOp.lw 0) ?_ | refine AQ.p rfl (AOp.lw 1) ?_ | refine AQ.p rfl (AOp.lw 2) ?_) <;> refine AQ.es 2 ?_ <;> (first | refine AQ.p rfl AOp.fa ?_ | refine AQ.p rfl (AOp.fr 0) ?_) <;> (first | refine AQ.p rfl AOp.la ?_ | refine AQ.p rfl (AOp.ll 0) ?_ | refine AQ.p rfl (AOp.ll 1) ?_ | refine AQ.p rfl (AOp.ll 2) ?_) <;> refine AQ.nil ?_ <;> (refine AL.callQ rfl rfl hc rfl ?_ ?_; rotate_left; rintro _ _ ⟨_, ⟨e, _⟩, _⟩; cases e; rintro _ _ ⟨_, ⟨e, g', rfl⟩, rfl⟩; injection e with e; subst e) <;> refine AL.nil ?_) | refine AW.jt ?_ | refine AW.jf ?_ | refine AW.jj (fun hb => ?_) (fun hb => ?_) | refine AW.go ?_ | fail)
    refine AW.drop (ah' := [.map mt (kvW bav (bmap (vrF x o))) g', .box rn (nmAV mt 0)]) (.cons_cons _ (List.sublist_cons_self _ _)) ?_
    repeat' (first | (refine AW.r 6 ?_ <;> refine AL.d AOp.ad ?_ <;> refine AL.es 1 ?_ <;> refine AL.nil ?_) | refine AW.jt ?_ | refine AW.jf ?_ | refine AW.jj (fun hb => ?_) (fun hb => ?_) | refine AW.go ?_ | fail)
    refine AW.again_keep (fs.length - (i + 1)) [3, 9, 10, 11] (by omega) ⟨i + 1, vrF x o, g', hlt, rfl, rfl, rfl, ?_⟩
    rw [he, List.take_add_one, hx]; simp [vrL_snoc]
  · have ho2 : o = vrL fs [] := by rw [he, List.take_of_length_le (by omega)]
    subst ho2
    repeat' (first | refine AW.re 3 1 ?_ | refine AW.jt ?_ | refine AW.jf ?_ | refine AW.jj (fun hb => ?_) (fun hb => ?_) | refine AW.go ?_ | fail)
    all_goals try (exfalso; simp only [decide_eq_true_eq, decide_eq_false_iff_not, List.length_map] at *; omega)
    repeat' (first | refine AW.re 7 2 ?_ | refine AW.jt ?_ | refine AW.jf ?_ | refine AW.jj (fun hb => ?_) (fun hb => ?_) | refine AW.go ?_ | fail)
    exact AW.retv rfl ⟨_, _, _, rfl, rfl⟩
end Go.Proofs.YtlpndgodkkndnaaDoor
