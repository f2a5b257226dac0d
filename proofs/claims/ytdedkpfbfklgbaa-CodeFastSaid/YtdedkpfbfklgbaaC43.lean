/- Contracts: alive. -/
import Derived.Test.YtdedkpfbfklgbaaC42
import Derived.Test.YtdedkpfbfklgbaaC36
namespace Go.Proofs.Ytdedkpfbfklgbaa
open Go.RowKit Go.SX
set_option maxRecDepth 100000
set_option maxHeartbeats 4000000
set_option linter.unusedVariables false
set_option linter.unusedSimpArgs false

theorem emp_ok : strOk ⟨#[]⟩ := by show (0 : Nat) ≤ _; omega
theorem nameE_ok : strOk nameE := by show (1 : Nat) ≤ _; omega
theorem len0 {α : Type} {n : Nat} {bd : α → Prop} : lenOk n bd [] := ⟨by simp, by simp⟩
theorem len1 {α : Type} {n : Nat} {bd : α → Prop} {x : α} (hn : n ≤ 1000) (h : bd x) : lenOk n bd [x] := ⟨by simp; omega, by simpa using h⟩
theorem len2 {α : Type} {n : Nat} {bd : α → Prop} {x y : α} (hn : n ≤ 1000) (h : bd x) (h' : bd y) : lenOk n bd [x, y] := ⟨by simp; omega, by simpa using ⟨h, h'⟩⟩
theorem noLit_ok : noLit.Ok := ⟨rfl, emp_ok, len0⟩
theorem edgesC_ok : edgesC.Ok := by
  have s0 : GStmt.Ok ⟨0, 1, 0, 0, 0, ⟨#[]⟩, ⟨#[]⟩, ⟨0, false, nameE, [0, 1]⟩, [], [], []⟩ := .mk ⟨rfl, rfl, rfl, rfl, rfl, emp_ok, emp_ok, ⟨rfl, nameE_ok, len2 (by omega) rfl rfl⟩, len0⟩ (by simp) (by simp) (by simp) (by simp)
  have s1 : GStmt.Ok ⟨3, 0, 1, 0, 0, ⟨#[]⟩, ⟨#[]⟩, noLit, [], [], []⟩ := .mk ⟨rfl, rfl, rfl, rfl, rfl, emp_ok, emp_ok, noLit_ok, len0⟩ (by simp) (by simp) (by simp) (by simp)
  have s2 : GStmt.Ok ⟨7, 0, 0, 1, 0, ⟨#[]⟩, ⟨#[]⟩, noLit, [], [⟨0, 1, 0, 0, 0, ⟨#[]⟩, ⟨#[]⟩, ⟨0, false, nameE, [0, 1]⟩, [], [], []⟩, ⟨3, 0, 1, 0, 0, ⟨#[]⟩, ⟨#[]⟩, noLit, [], [], []⟩], []⟩ :=
    .mk ⟨rfl, rfl, rfl, rfl, rfl, emp_ok, emp_ok, noLit_ok, len0⟩ (by simp) (by intro x h; simp only [List.mem_cons, List.not_mem_nil, or_false] at h; rcases h with rfl | rfl; exact s0; exact s1) (by simp) (by simp)
  refine ⟨rfl, rfl, len0, len1 (by omega) ?_⟩
  exact .mk ⟨rfl, rfl, rfl, rfl, rfl, emp_ok, emp_ok, noLit_ok, len0⟩ (by simp) (by intro x h; simp only [List.mem_cons, List.not_mem_nil, or_false] at h; subst h; exact s2) (by simp) (by simp)
theorem edgesS_ok : edgesS.Ok := ⟨rfl, len1 (by omega) ⟨nameE_ok, rfl, len1 (by omega) (len2 (by omega) rfl rfl)⟩⟩
theorem law_alive : Tri Try.prog 7 [] [] (D (.bool true) []) := by
  obtain ⟨b, n, g, e, hR, hT⟩ := code_RunD edgesC edgesS [] 100 edgesC_ok edgesS_ok (by simp)
  obtain ⟨rfl, rfl, rfl⟩ := edges_run hR
  have hE := law_edges
  have hM := code_Time edgesC edgesC_ok (by decide)
  rw [edges_time] at hM
  have hQ := ref_Equal [1, 1, 2] [1, 1, 2] (by simp) (by simp)
  refine Tri.enter 44 Try.func7 rfl rfl rfl rfl fun Fr w0 => ?_
  repeat' (first
    | refine AW.seq ?_
    | (refine AW.region_at 0 ?_ <;> refine AL.ev rfl rfl rfl rfl ?_ <;> refine AL.nil ?_)
    | refine AW.cond_true rfl ?_
    | refine AW.cond_false rfl ?_
    | refine AW.block ?_
    | refine AW.endblk ?_
    | refine AW.skip ?_
    | refine AW.exit rfl ?_
    | refine AW.label ?_
    | refine AW.cond rfl (fun hb => ?_) (fun hb => ?_))
  repeat' (first
    | refine AW.seq ?_
    | (refine AW.region_at 1 ?_ <;> (first | refine AL.det (AOp.lit (t := 33) (e := 3) (sz := 1) (by kernel_rfl) rfl rfl rfl (by simp [AV.size, ofConst]) (by decide)) rfl rfl rfl ?_ | refine AL.det (AOp.lit (t := 46) (e := 33) (sz := 1) (by kernel_rfl) rfl rfl rfl (by simp [AV.size, ofConst]) (by decide)) rfl rfl rfl ?_ | refine AL.det (AOp.lit (t := 26) (e := 48) (sz := 3) (by kernel_rfl) rfl rfl rfl (by simp [AV.size, AV.sizes, ofConst]) (by decide)) rfl rfl rfl ?_) <;> (first | refine AL.det (AOp.lit (t := 33) (e := 3) (sz := 1) (by kernel_rfl) rfl rfl rfl (by simp [AV.size, ofConst]) (by decide)) rfl rfl rfl ?_ | refine AL.det (AOp.lit (t := 46) (e := 33) (sz := 1) (by kernel_rfl) rfl rfl rfl (by simp [AV.size, ofConst]) (by decide)) rfl rfl rfl ?_ | refine AL.det (AOp.lit (t := 26) (e := 48) (sz := 3) (by kernel_rfl) rfl rfl rfl (by simp [AV.size, AV.sizes, ofConst]) (by decide)) rfl rfl rfl ?_) <;> refine AL.det (AOp.build (pl := [(0, 1), (1, 1), (2, 1)]) (z := .st [.str ⟨#[]⟩, .int .i64 0, .sl []]) (by kernel_rfl) rfl rfl rfl) rfl rfl rfl ?_ <;> (first | refine AL.det (AOp.lit (t := 33) (e := 3) (sz := 1) (by kernel_rfl) rfl rfl rfl (by simp [AV.size, ofConst]) (by decide)) rfl rfl rfl ?_ | refine AL.det (AOp.lit (t := 46) (e := 33) (sz := 1) (by kernel_rfl) rfl rfl rfl (by simp [AV.size, ofConst]) (by decide)) rfl rfl rfl ?_ | refine AL.det (AOp.lit (t := 26) (e := 48) (sz := 3) (by kernel_rfl) rfl rfl rfl (by simp [AV.size, AV.sizes, ofConst]) (by decide)) rfl rfl rfl ?_) <;> refine AL.det (AOp.build (pl := [(0, 1), (1, 1)]) (z := .st [.int .i64 0, .sl []]) (by kernel_rfl) rfl rfl rfl) rfl rfl rfl ?_ <;> refine AL.alloc_store (by kernel_rfl) rfl rfl rfl rfl ?_ <;> refine AL.nil ?_)
    | refine AW.cond_true rfl ?_
    | refine AW.cond_false rfl ?_
    | refine AW.block ?_
    | refine AW.endblk ?_
    | refine AW.skip ?_
    | refine AW.exit rfl ?_
    | refine AW.label ?_
    | refine AW.cond rfl (fun hb => ?_) (fun hb => ?_))
  repeat' (first
    | refine AW.seq ?_
    | (refine AW.draw_at 2 rfl (by kernel_rfl) (by kernel_rfl) ?_ <;> (first | refine AQ.op rfl (AOp.call rfl rfl hE) rfl rfl ?_ | refine AQ.op rfl (AOp.call rfl rfl hT) rfl rfl ?_ | refine AQ.op rfl (AOp.call rfl rfl hM) rfl rfl ?_) <;> refine AQ.op rfl (AOp.load_at rfl rfl (by kernel_rfl)) rfl rfl ?_ <;> (first | refine AQ.op rfl (AOp.call rfl rfl hE) rfl rfl ?_ | refine AQ.op rfl (AOp.call rfl rfl hT) rfl rfl ?_ | refine AQ.op rfl (AOp.call rfl rfl hM) rfl rfl ?_) <;> refine AQ.ev rfl rfl rfl rfl ?_ <;> refine AQ.ev rfl rfl rfl rfl ?_ <;> refine AQ.ev rfl rfl rfl rfl ?_ <;> refine AQ.ev rfl rfl rfl rfl ?_ <;> refine AQ.ev rfl rfl rfl rfl ?_ <;> refine AQ.ev rfl rfl rfl rfl ?_ <;> refine AQ.ev rfl rfl rfl rfl ?_ <;> refine AQ.ev rfl rfl rfl rfl ?_ <;> refine AQ.ev rfl rfl rfl rfl ?_ <;> refine AQ.nil ?_)
    | (refine AW.region_at 3 ?_ <;> (first | refine AL.det (AOp.call rfl rfl hE) rfl rfl rfl ?_ | refine AL.det (AOp.call rfl rfl hT) rfl rfl rfl ?_ | refine AL.det (AOp.call rfl rfl hM) rfl rfl rfl ?_) <;> (first | refine AL.det (AOp.call rfl rfl hE) rfl rfl rfl ?_ | refine AL.det (AOp.call rfl rfl hT) rfl rfl rfl ?_ | refine AL.det (AOp.call rfl rfl hM) rfl rfl rfl ?_) <;> refine AL.ev rfl rfl rfl rfl ?_ <;> refine AL.ev rfl rfl rfl rfl ?_ <;> refine AL.ev rfl rfl rfl rfl ?_ <;> refine AL.ev rfl rfl rfl rfl ?_ <;> refine AL.ev rfl rfl rfl rfl ?_ <;> refine AL.nil ?_)
    | refine AW.cond_true rfl ?_
    | refine AW.cond_false rfl ?_
    | refine AW.block ?_
    | refine AW.endblk ?_
    | refine AW.skip ?_
    | refine AW.exit rfl ?_
    | refine AW.label ?_
    | refine AW.cond rfl (fun hb => ?_) (fun hb => ?_))
  repeat' (first
    | refine AW.seq ?_
    | (refine AW.region_at 4 ?_ <;> refine AL.ev rfl rfl rfl rfl ?_ <;> (first | refine AL.ev rfl rfl rfl rfl ?_ | refine AL.det (AOp.add rfl rfl (by omega)) rfl rfl rfl ?_ | refine AL.det (AOp.sub rfl rfl (by omega)) rfl rfl rfl ?_ | refine AL.det (AOp.bool_eq (by kernel_rfl) rfl rfl) rfl rfl rfl ?_ | refine AL.det (AOp.bool_ne (by kernel_rfl) rfl rfl) rfl rfl rfl ?_) <;> refine AL.ev rfl rfl rfl rfl ?_ <;> (first | (refine AL.guard_do rfl rfl rfl rfl ?_; refine AL.ev rfl rfl rfl rfl ?_) | refine AL.guard_skip rfl rfl rfl rfl rfl ?_ | refine AL.guard_undef rfl rfl rfl rfl ?_ | (refine AL.guard_split rfl rfl rfl (fun hb => ?_) (fun hb => ?_) <;> first | (refine AL.guard_do rfl rfl rfl rfl ?_; refine AL.ev rfl rfl rfl rfl ?_) | refine AL.guard_skip rfl rfl rfl rfl rfl ?_)) <;> (first | (refine AL.guard_do rfl rfl rfl rfl ?_; (first | refine AL.ev rfl rfl rfl rfl ?_ | refine AL.det (AOp.add rfl rfl (by omega)) rfl rfl rfl ?_ | refine AL.det (AOp.sub rfl rfl (by omega)) rfl rfl rfl ?_ | refine AL.det (AOp.bool_eq (by kernel_rfl) rfl rfl) rfl rfl rfl ?_ | refine AL.det (AOp.bool_ne (by kernel_rfl) rfl rfl) rfl rfl rfl ?_)) | refine AL.guard_skip rfl rfl rfl rfl rfl ?_ | refine AL.guard_undef rfl rfl rfl rfl ?_ | (refine AL.guard_split rfl rfl rfl (fun hb => ?_) (fun hb => ?_) <;> first | (refine AL.guard_do rfl rfl rfl rfl ?_; (first | refine AL.ev rfl rfl rfl rfl ?_ | refine AL.det (AOp.add rfl rfl (by omega)) rfl rfl rfl ?_ | refine AL.det (AOp.sub rfl rfl (by omega)) rfl rfl rfl ?_ | refine AL.det (AOp.bool_eq (by kernel_rfl) rfl rfl) rfl rfl rfl ?_ | refine AL.det (AOp.bool_ne (by kernel_rfl) rfl rfl) rfl rfl rfl ?_)) | refine AL.guard_skip rfl rfl rfl rfl rfl ?_)) <;> refine AL.ev rfl rfl rfl rfl ?_ <;> refine AL.ev rfl rfl rfl rfl ?_ <;> (first | (refine AL.guard_do rfl rfl rfl rfl ?_; refine AL.ev rfl rfl rfl rfl ?_) | refine AL.guard_skip rfl rfl rfl rfl rfl ?_ | refine AL.guard_undef rfl rfl rfl rfl ?_ | (refine AL.guard_split rfl rfl rfl (fun hb => ?_) (fun hb => ?_) <;> first | (refine AL.guard_do rfl rfl rfl rfl ?_; refine AL.ev rfl rfl rfl rfl ?_) | refine AL.guard_skip rfl rfl rfl rfl rfl ?_)) <;> refine AL.ev rfl rfl rfl rfl ?_ <;> refine AL.ev rfl rfl rfl rfl ?_ <;> (first | (refine AL.guard_do rfl rfl rfl rfl ?_; refine AL.ev rfl rfl rfl rfl ?_) | refine AL.guard_skip rfl rfl rfl rfl rfl ?_ | refine AL.guard_undef rfl rfl rfl rfl ?_ | (refine AL.guard_split rfl rfl rfl (fun hb => ?_) (fun hb => ?_) <;> first | (refine AL.guard_do rfl rfl rfl rfl ?_; refine AL.ev rfl rfl rfl rfl ?_) | refine AL.guard_skip rfl rfl rfl rfl rfl ?_)) <;> (first | (refine AL.guard_do rfl rfl rfl rfl ?_; (first | refine AL.ev rfl rfl rfl rfl ?_ | refine AL.det (AOp.add rfl rfl (by omega)) rfl rfl rfl ?_ | refine AL.det (AOp.sub rfl rfl (by omega)) rfl rfl rfl ?_ | refine AL.det (AOp.bool_eq (by kernel_rfl) rfl rfl) rfl rfl rfl ?_ | refine AL.det (AOp.bool_ne (by kernel_rfl) rfl rfl) rfl rfl rfl ?_)) | refine AL.guard_skip rfl rfl rfl rfl rfl ?_ | refine AL.guard_undef rfl rfl rfl rfl ?_ | (refine AL.guard_split rfl rfl rfl (fun hb => ?_) (fun hb => ?_) <;> first | (refine AL.guard_do rfl rfl rfl rfl ?_; (first | refine AL.ev rfl rfl rfl rfl ?_ | refine AL.det (AOp.add rfl rfl (by omega)) rfl rfl rfl ?_ | refine AL.det (AOp.sub rfl rfl (by omega)) rfl rfl rfl ?_ | refine AL.det (AOp.bool_eq (by kernel_rfl) rfl rfl) rfl rfl rfl ?_ | refine AL.det (AOp.bool_ne (by kernel_rfl) rfl rfl) rfl rfl rfl ?_)) | refine AL.guard_skip rfl rfl rfl rfl rfl ?_)) <;> refine AL.ev rfl rfl rfl rfl ?_ <;> refine AL.ev rfl rfl rfl rfl ?_ <;> (first | (refine AL.guard_do rfl rfl rfl rfl ?_; refine AL.ev rfl rfl rfl rfl ?_) | refine AL.guard_skip rfl rfl rfl rfl rfl ?_ | refine AL.guard_undef rfl rfl rfl rfl ?_ | (refine AL.guard_split rfl rfl rfl (fun hb => ?_) (fun hb => ?_) <;> first | (refine AL.guard_do rfl rfl rfl rfl ?_; refine AL.ev rfl rfl rfl rfl ?_) | refine AL.guard_skip rfl rfl rfl rfl rfl ?_)) <;> (first | (refine AL.guard_do rfl rfl rfl rfl ?_; refine AL.det (AOp.lit (t := 33) (e := 3) (sz := 1) (by kernel_rfl) rfl rfl rfl (by simp [AV.size, ofConst]) (by decide)) rfl rfl rfl ?_) | refine AL.guard_skip rfl rfl rfl rfl rfl ?_ | refine AL.guard_undef rfl rfl rfl rfl ?_ | (refine AL.guard_split rfl rfl rfl (fun hb => ?_) (fun hb => ?_) <;> first | (refine AL.guard_do rfl rfl rfl rfl ?_; refine AL.det (AOp.lit (t := 33) (e := 3) (sz := 1) (by kernel_rfl) rfl rfl rfl (by simp [AV.size, ofConst]) (by decide)) rfl rfl rfl ?_) | refine AL.guard_skip rfl rfl rfl rfl rfl ?_)) <;> (first | (refine AL.guard_do rfl rfl rfl rfl ?_; refine AL.det (AOp.call rfl rfl hQ) rfl rfl rfl ?_) | refine AL.guard_skip rfl rfl rfl rfl rfl ?_ | refine AL.guard_undef rfl rfl rfl rfl ?_ | (refine AL.guard_split rfl rfl rfl (fun hb => ?_) (fun hb => ?_) <;> first | (refine AL.guard_do rfl rfl rfl rfl ?_; refine AL.det (AOp.call rfl rfl hQ) rfl rfl rfl ?_) | refine AL.guard_skip rfl rfl rfl rfl rfl ?_)) <;> refine AL.ev rfl rfl rfl rfl ?_ <;> refine AL.ev rfl rfl rfl rfl ?_ <;> refine AL.nil ?_)
    | refine AW.cond_true rfl ?_
    | refine AW.cond_false rfl ?_
    | refine AW.block ?_
    | refine AW.endblk ?_
    | refine AW.skip ?_
    | refine AW.exit rfl ?_
    | refine AW.label ?_
    | refine AW.cond rfl (fun hb => ?_) (fun hb => ?_))
  exact AW.retv rfl ⟨by simp, rfl⟩
end Go.Proofs.Ytdedkpfbfklgbaa
