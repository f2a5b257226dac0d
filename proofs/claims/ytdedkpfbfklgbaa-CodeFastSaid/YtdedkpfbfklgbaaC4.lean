/- Contracts: powers, tuples. -/
import Derived.Test.YtdedkpfbfklgbaaC3
namespace Go.Proofs.Ytdedkpfbfklgbaa
open Go.RowKit Go.SX
set_option maxRecDepth 100000
set_option linter.unusedVariables false
set_option linter.unusedSimpArgs false

/-- p times n to the k, or -1 once it is more than 4096. -/
def powGo (n : Int) : Nat → Int → Int
  | 0, p => p
  | k + 1, p => if p * n > 4096 then -1 else powGo n k (p * n)
theorem shape_power (n k : Int) (hn : 1 ≤ n ∧ n ≤ 64) (hk : 0 ≤ k ∧ k ≤ 12) : Tri Try.prog 38 [.int .i64 n, .int .i64 k, .int .i64 4096] [] (D (.int .i64 (powGo n k.toNat 1)) []) := by
  refine Tri.enter 19 Try.func38 rfl rfl rfl rfl fun Fr w0 => ?_
  repeat' (first
    | refine AW.seq ?_
    | (refine AW.region_at 0 ?_ <;> refine AL.ev rfl rfl rfl rfl ?_ <;> refine AL.nil ?_)
    | (refine AW.region_at 1 ?_ <;> refine AL.ev rfl rfl rfl rfl ?_ <;> refine AL.nil ?_)
    | (refine AW.region_at 2 ?_ <;> refine AL.ev rfl rfl rfl rfl ?_ <;> refine AL.ev rfl rfl rfl rfl ?_ <;> refine AL.nil ?_)
    | refine AW.cond_true rfl ?_
    | refine AW.cond_false rfl ?_
    | refine AW.block ?_
    | refine AW.endblk ?_
    | refine AW.skip ?_
    | refine AW.exit rfl ?_
    | refine AW.label ?_
    | refine AW.cond rfl (fun hb => ?_) (fun hb => ?_))
  refine AW.prune [0, 1, 2, 7, 8, 9] (AW.loop (fun m af h => ∃ (i : Nat) (p : Int), i ≤ k.toNat ∧ m = k.toNat - i ∧ af = [(0, .int .i64 n), (1, .int .i64 k), (2, .int .i64 4096), (7, .int .i64 p), (8, .int .i64 k), (9, .int .i64 i)] ∧ h = [] ∧ 1 ≤ p ∧ p ≤ 4096 ∧ powGo n k.toNat 1 = powGo n (k.toNat - i) p) k.toNat ⟨0, 1, Nat.zero_le _, rfl, rfl, rfl, by omega, by omega, rfl⟩ ?_)
  rintro m af h ⟨i, p, hi, rfl, rfl, rfl, hp1, hp2, he⟩
  have hmul : 1 ≤ p * n ∧ p * n ≤ 4096 * 64 := ⟨by have := Int.mul_le_mul hp1 hn.1 (by omega) (by omega); omega, by have := Int.mul_le_mul hp2 hn.2 (by omega) (by omega); omega⟩
  repeat' (first
    | refine AW.seq ?_
    | (refine AW.region_at 0 ?_ <;> refine AL.ev rfl rfl rfl rfl ?_ <;> refine AL.nil ?_)
    | (refine AW.region_at 1 ?_ <;> refine AL.ev rfl rfl rfl rfl ?_ <;> refine AL.nil ?_)
    | (refine AW.region_at 2 ?_ <;> refine AL.ev rfl rfl rfl rfl ?_ <;> refine AL.ev rfl rfl rfl rfl ?_ <;> refine AL.nil ?_)
    | (refine AW.region_at 3 ?_ <;> (first | refine AL.ev rfl rfl rfl rfl ?_ | refine AL.det (AOp.mul rfl rfl (by omega)) rfl rfl rfl ?_ | refine AL.det (AOp.add rfl rfl (by omega)) rfl rfl rfl ?_ | refine AL.det (AOp.sub rfl rfl (by omega)) rfl rfl rfl ?_ | refine AL.det (AOp.bool_eq (by kernel_rfl) rfl rfl) rfl rfl rfl ?_ | refine AL.det (AOp.bool_ne (by kernel_rfl) rfl rfl) rfl rfl rfl ?_) <;> refine AL.nil ?_)
    | (refine AW.region_at 4 ?_ <;> refine AL.ev rfl rfl rfl rfl ?_ <;> refine AL.ev rfl rfl rfl rfl ?_ <;> (first | refine AL.ev rfl rfl rfl rfl ?_ | refine AL.det (AOp.mul rfl rfl (by omega)) rfl rfl rfl ?_ | refine AL.det (AOp.add rfl rfl (by omega)) rfl rfl rfl ?_ | refine AL.det (AOp.sub rfl rfl (by omega)) rfl rfl rfl ?_ | refine AL.det (AOp.bool_eq (by kernel_rfl) rfl rfl) rfl rfl rfl ?_ | refine AL.det (AOp.bool_ne (by kernel_rfl) rfl rfl) rfl rfl rfl ?_) <;> refine AL.ev rfl rfl rfl rfl ?_ <;> refine AL.nil ?_)
    | (refine AW.region_at 5 ?_ <;> refine AL.ev rfl rfl rfl rfl ?_ <;> refine AL.ev rfl rfl rfl rfl ?_ <;> (first | refine AL.ev rfl rfl rfl rfl ?_ | refine AL.det (AOp.mul rfl rfl (by omega)) rfl rfl rfl ?_ | refine AL.det (AOp.add rfl rfl (by omega)) rfl rfl rfl ?_ | refine AL.det (AOp.sub rfl rfl (by omega)) rfl rfl rfl ?_ | refine AL.det (AOp.bool_eq (by kernel_rfl) rfl rfl) rfl rfl rfl ?_ | refine AL.det (AOp.bool_ne (by kernel_rfl) rfl rfl) rfl rfl rfl ?_) <;> refine AL.nil ?_)
    | (refine AW.region_at 6 ?_ <;> refine AL.ev rfl rfl rfl rfl ?_ <;> refine AL.nil ?_)
    | (refine AW.region_at 7 ?_ <;> (first | refine AL.ev rfl rfl rfl rfl ?_ | refine AL.det (AOp.mul rfl rfl (by omega)) rfl rfl rfl ?_ | refine AL.det (AOp.add rfl rfl (by omega)) rfl rfl rfl ?_ | refine AL.det (AOp.sub rfl rfl (by omega)) rfl rfl rfl ?_ | refine AL.det (AOp.bool_eq (by kernel_rfl) rfl rfl) rfl rfl rfl ?_ | refine AL.det (AOp.bool_ne (by kernel_rfl) rfl rfl) rfl rfl rfl ?_) <;> refine AL.ev rfl rfl rfl rfl ?_ <;> refine AL.nil ?_)
    | (refine AW.region_at 8 ?_ <;> refine AL.ev rfl rfl rfl rfl ?_ <;> refine AL.ev rfl rfl rfl rfl ?_ <;> refine AL.nil ?_)
    | refine AW.cond_true rfl ?_
    | refine AW.cond_false rfl ?_
    | refine AW.block ?_
    | refine AW.endblk ?_
    | refine AW.skip ?_
    | refine AW.exit rfl ?_
    | refine AW.label ?_
    | refine AW.cond rfl (fun hb => ?_) (fun hb => ?_))
  · rename_i h1
    have h1 := of_decide_eq_true h1
    have h2 := of_decide_eq_true hb
    rw [show k.toNat - i = (k.toNat - (i + 1)) + 1 by omega] at he
    rw [powGo, if_pos h2] at he
    exact AW.retv rfl ⟨by rw [he]; rfl, rfl⟩
  · rename_i h1
    have h1 := of_decide_eq_true h1
    have h2 := of_decide_eq_false hb
    rw [show k.toNat - i = (k.toNat - (i + 1)) + 1 by omega] at he
    rw [powGo, if_neg h2] at he
    exact AW.again_keep (k.toNat - (i + 1)) [0, 1, 2, 7, 8, 9] (by omega) ⟨i + 1, p * n, by omega, rfl, rfl, rfl, hmul.1, by omega, he⟩
  · have h1 := of_decide_eq_false hb
    rw [show k.toNat - i = 0 by omega] at he
    exact AW.retv rfl ⟨by rw [he]; rfl, rfl⟩
def powerR (n k : Int) : Int × Int := if n < 1 ∨ n > 64 ∨ k < 0 ∨ k > 12 then (0, 2) else if powGo n k.toNat 1 < 0 then (0, 5) else (powGo n k.toNat 1, 0)
theorem shape_Power (n k : Int) : Tri Try.prog 24 [.int .i64 n, .int .i64 k] [] (D (.tup [.int .i64 (powerR n k).1, .int .i64 (powerR n k).2]) []) := by
  by_cases hg : n < 1 ∨ n > 64 ∨ k < 0 ∨ k > 12
  · rw [show powerR n k = (0, 2) by simp [powerR, hg]]
    refine Tri.enter 27 Try.func24 rfl rfl rfl rfl fun Fr w0 => ?_
    repeat' (first
      | refine AW.seq ?_
      | (refine AW.region_at 0 ?_ <;> refine AL.ev rfl rfl rfl rfl ?_ <;> refine AL.ev rfl rfl rfl rfl ?_ <;> refine AL.nil ?_)
      | (refine AW.region_at 1 ?_ <;> refine AL.ev rfl rfl rfl rfl ?_ <;> (first | refine AL.ev rfl rfl rfl rfl ?_ | refine AL.det (AOp.add rfl rfl (by omega)) rfl rfl rfl ?_ | refine AL.det (AOp.sub rfl rfl (by omega)) rfl rfl rfl ?_ | refine AL.det (AOp.bool_eq (by kernel_rfl) rfl rfl) rfl rfl rfl ?_ | refine AL.det (AOp.bool_ne (by kernel_rfl) rfl rfl) rfl rfl rfl ?_) <;> refine AL.ev rfl rfl rfl rfl ?_ <;> (first | (refine AL.guard_do rfl rfl rfl rfl ?_; refine AL.ev rfl rfl rfl rfl ?_) | refine AL.guard_skip rfl rfl rfl rfl rfl ?_ | refine AL.guard_undef rfl rfl rfl rfl ?_ | (refine AL.guard_split rfl rfl rfl (fun hb => ?_) (fun hb => ?_) <;> first | (refine AL.guard_do rfl rfl rfl rfl ?_; refine AL.ev rfl rfl rfl rfl ?_) | refine AL.guard_skip rfl rfl rfl rfl rfl ?_)) <;> (first | (refine AL.guard_do rfl rfl rfl rfl ?_; (first | refine AL.ev rfl rfl rfl rfl ?_ | refine AL.det (AOp.add rfl rfl (by omega)) rfl rfl rfl ?_ | refine AL.det (AOp.sub rfl rfl (by omega)) rfl rfl rfl ?_ | refine AL.det (AOp.bool_eq (by kernel_rfl) rfl rfl) rfl rfl rfl ?_ | refine AL.det (AOp.bool_ne (by kernel_rfl) rfl rfl) rfl rfl rfl ?_)) | refine AL.guard_skip rfl rfl rfl rfl rfl ?_ | refine AL.guard_undef rfl rfl rfl rfl ?_ | (refine AL.guard_split rfl rfl rfl (fun hb => ?_) (fun hb => ?_) <;> first | (refine AL.guard_do rfl rfl rfl rfl ?_; (first | refine AL.ev rfl rfl rfl rfl ?_ | refine AL.det (AOp.add rfl rfl (by omega)) rfl rfl rfl ?_ | refine AL.det (AOp.sub rfl rfl (by omega)) rfl rfl rfl ?_ | refine AL.det (AOp.bool_eq (by kernel_rfl) rfl rfl) rfl rfl rfl ?_ | refine AL.det (AOp.bool_ne (by kernel_rfl) rfl rfl) rfl rfl rfl ?_)) | refine AL.guard_skip rfl rfl rfl rfl rfl ?_)) <;> refine AL.ev rfl rfl rfl rfl ?_ <;> refine AL.ev rfl rfl rfl rfl ?_ <;> (first | (refine AL.guard_do rfl rfl rfl rfl ?_; refine AL.ev rfl rfl rfl rfl ?_) | refine AL.guard_skip rfl rfl rfl rfl rfl ?_ | refine AL.guard_undef rfl rfl rfl rfl ?_ | (refine AL.guard_split rfl rfl rfl (fun hb => ?_) (fun hb => ?_) <;> first | (refine AL.guard_do rfl rfl rfl rfl ?_; refine AL.ev rfl rfl rfl rfl ?_) | refine AL.guard_skip rfl rfl rfl rfl rfl ?_)) <;> (first | (refine AL.guard_do rfl rfl rfl rfl ?_; (first | refine AL.ev rfl rfl rfl rfl ?_ | refine AL.det (AOp.add rfl rfl (by omega)) rfl rfl rfl ?_ | refine AL.det (AOp.sub rfl rfl (by omega)) rfl rfl rfl ?_ | refine AL.det (AOp.bool_eq (by kernel_rfl) rfl rfl) rfl rfl rfl ?_ | refine AL.det (AOp.bool_ne (by kernel_rfl) rfl rfl) rfl rfl rfl ?_)) | refine AL.guard_skip rfl rfl rfl rfl rfl ?_ | refine AL.guard_undef rfl rfl rfl rfl ?_ | (refine AL.guard_split rfl rfl rfl (fun hb => ?_) (fun hb => ?_) <;> first | (refine AL.guard_do rfl rfl rfl rfl ?_; (first | refine AL.ev rfl rfl rfl rfl ?_ | refine AL.det (AOp.add rfl rfl (by omega)) rfl rfl rfl ?_ | refine AL.det (AOp.sub rfl rfl (by omega)) rfl rfl rfl ?_ | refine AL.det (AOp.bool_eq (by kernel_rfl) rfl rfl) rfl rfl rfl ?_ | refine AL.det (AOp.bool_ne (by kernel_rfl) rfl rfl) rfl rfl rfl ?_)) | refine AL.guard_skip rfl rfl rfl rfl rfl ?_)) <;> refine AL.ev rfl rfl rfl rfl ?_ <;> refine AL.ev rfl rfl rfl rfl ?_ <;> (first | (refine AL.guard_do rfl rfl rfl rfl ?_; refine AL.ev rfl rfl rfl rfl ?_) | refine AL.guard_skip rfl rfl rfl rfl rfl ?_ | refine AL.guard_undef rfl rfl rfl rfl ?_ | (refine AL.guard_split rfl rfl rfl (fun hb => ?_) (fun hb => ?_) <;> first | (refine AL.guard_do rfl rfl rfl rfl ?_; refine AL.ev rfl rfl rfl rfl ?_) | refine AL.guard_skip rfl rfl rfl rfl rfl ?_)) <;> (first | (refine AL.guard_do rfl rfl rfl rfl ?_; (first | refine AL.ev rfl rfl rfl rfl ?_ | refine AL.det (AOp.add rfl rfl (by omega)) rfl rfl rfl ?_ | refine AL.det (AOp.sub rfl rfl (by omega)) rfl rfl rfl ?_ | refine AL.det (AOp.bool_eq (by kernel_rfl) rfl rfl) rfl rfl rfl ?_ | refine AL.det (AOp.bool_ne (by kernel_rfl) rfl rfl) rfl rfl rfl ?_)) | refine AL.guard_skip rfl rfl rfl rfl rfl ?_ | refine AL.guard_undef rfl rfl rfl rfl ?_ | (refine AL.guard_split rfl rfl rfl (fun hb => ?_) (fun hb => ?_) <;> first | (refine AL.guard_do rfl rfl rfl rfl ?_; (first | refine AL.ev rfl rfl rfl rfl ?_ | refine AL.det (AOp.add rfl rfl (by omega)) rfl rfl rfl ?_ | refine AL.det (AOp.sub rfl rfl (by omega)) rfl rfl rfl ?_ | refine AL.det (AOp.bool_eq (by kernel_rfl) rfl rfl) rfl rfl rfl ?_ | refine AL.det (AOp.bool_ne (by kernel_rfl) rfl rfl) rfl rfl rfl ?_)) | refine AL.guard_skip rfl rfl rfl rfl rfl ?_)) <;> refine AL.ev rfl rfl rfl rfl ?_ <;> refine AL.nil ?_)
      | (refine AW.region_at 2 ?_ <;> refine AL.ev rfl rfl rfl rfl ?_ <;> refine AL.ev rfl rfl rfl rfl ?_ <;> refine AL.nil ?_)
      | refine AW.cond_true rfl ?_
      | refine AW.cond_false rfl ?_
      | refine AW.block ?_
      | refine AW.endblk ?_
      | refine AW.skip ?_
      | refine AW.exit rfl ?_
      | refine AW.label ?_
      | refine AW.cond rfl (fun hb => ?_) (fun hb => ?_))
    all_goals first | exact AW.retv rfl ⟨rfl, rfl⟩ | (exfalso; simp only [decide_eq_true_eq, decide_eq_false_iff_not] at *; omega)
  · have h1 := shape_power n k (by omega) (by omega)
    have e : powerR n k = if powGo n k.toNat 1 < 0 then (0, 5) else (powGo n k.toNat 1, 0) := by simp only [powerR, if_neg hg]
    rw [e]
    refine Tri.enter 27 Try.func24 rfl rfl rfl rfl fun Fr w0 => ?_
    repeat' (first
      | refine AW.seq ?_
      | (refine AW.region_at 0 ?_ <;> refine AL.ev rfl rfl rfl rfl ?_ <;> refine AL.ev rfl rfl rfl rfl ?_ <;> refine AL.nil ?_)
      | (refine AW.region_at 1 ?_ <;> refine AL.ev rfl rfl rfl rfl ?_ <;> (first | refine AL.ev rfl rfl rfl rfl ?_ | refine AL.det (AOp.add rfl rfl (by omega)) rfl rfl rfl ?_ | refine AL.det (AOp.sub rfl rfl (by omega)) rfl rfl rfl ?_ | refine AL.det (AOp.bool_eq (by kernel_rfl) rfl rfl) rfl rfl rfl ?_ | refine AL.det (AOp.bool_ne (by kernel_rfl) rfl rfl) rfl rfl rfl ?_) <;> refine AL.ev rfl rfl rfl rfl ?_ <;> (first | (refine AL.guard_do rfl rfl rfl rfl ?_; refine AL.ev rfl rfl rfl rfl ?_) | refine AL.guard_skip rfl rfl rfl rfl rfl ?_ | refine AL.guard_undef rfl rfl rfl rfl ?_ | (refine AL.guard_split rfl rfl rfl (fun hb => ?_) (fun hb => ?_) <;> first | (refine AL.guard_do rfl rfl rfl rfl ?_; refine AL.ev rfl rfl rfl rfl ?_) | refine AL.guard_skip rfl rfl rfl rfl rfl ?_)) <;> (first | (refine AL.guard_do rfl rfl rfl rfl ?_; (first | refine AL.ev rfl rfl rfl rfl ?_ | refine AL.det (AOp.add rfl rfl (by omega)) rfl rfl rfl ?_ | refine AL.det (AOp.sub rfl rfl (by omega)) rfl rfl rfl ?_ | refine AL.det (AOp.bool_eq (by kernel_rfl) rfl rfl) rfl rfl rfl ?_ | refine AL.det (AOp.bool_ne (by kernel_rfl) rfl rfl) rfl rfl rfl ?_)) | refine AL.guard_skip rfl rfl rfl rfl rfl ?_ | refine AL.guard_undef rfl rfl rfl rfl ?_ | (refine AL.guard_split rfl rfl rfl (fun hb => ?_) (fun hb => ?_) <;> first | (refine AL.guard_do rfl rfl rfl rfl ?_; (first | refine AL.ev rfl rfl rfl rfl ?_ | refine AL.det (AOp.add rfl rfl (by omega)) rfl rfl rfl ?_ | refine AL.det (AOp.sub rfl rfl (by omega)) rfl rfl rfl ?_ | refine AL.det (AOp.bool_eq (by kernel_rfl) rfl rfl) rfl rfl rfl ?_ | refine AL.det (AOp.bool_ne (by kernel_rfl) rfl rfl) rfl rfl rfl ?_)) | refine AL.guard_skip rfl rfl rfl rfl rfl ?_)) <;> refine AL.ev rfl rfl rfl rfl ?_ <;> refine AL.ev rfl rfl rfl rfl ?_ <;> (first | (refine AL.guard_do rfl rfl rfl rfl ?_; refine AL.ev rfl rfl rfl rfl ?_) | refine AL.guard_skip rfl rfl rfl rfl rfl ?_ | refine AL.guard_undef rfl rfl rfl rfl ?_ | (refine AL.guard_split rfl rfl rfl (fun hb => ?_) (fun hb => ?_) <;> first | (refine AL.guard_do rfl rfl rfl rfl ?_; refine AL.ev rfl rfl rfl rfl ?_) | refine AL.guard_skip rfl rfl rfl rfl rfl ?_)) <;> (first | (refine AL.guard_do rfl rfl rfl rfl ?_; (first | refine AL.ev rfl rfl rfl rfl ?_ | refine AL.det (AOp.add rfl rfl (by omega)) rfl rfl rfl ?_ | refine AL.det (AOp.sub rfl rfl (by omega)) rfl rfl rfl ?_ | refine AL.det (AOp.bool_eq (by kernel_rfl) rfl rfl) rfl rfl rfl ?_ | refine AL.det (AOp.bool_ne (by kernel_rfl) rfl rfl) rfl rfl rfl ?_)) | refine AL.guard_skip rfl rfl rfl rfl rfl ?_ | refine AL.guard_undef rfl rfl rfl rfl ?_ | (refine AL.guard_split rfl rfl rfl (fun hb => ?_) (fun hb => ?_) <;> first | (refine AL.guard_do rfl rfl rfl rfl ?_; (first | refine AL.ev rfl rfl rfl rfl ?_ | refine AL.det (AOp.add rfl rfl (by omega)) rfl rfl rfl ?_ | refine AL.det (AOp.sub rfl rfl (by omega)) rfl rfl rfl ?_ | refine AL.det (AOp.bool_eq (by kernel_rfl) rfl rfl) rfl rfl rfl ?_ | refine AL.det (AOp.bool_ne (by kernel_rfl) rfl rfl) rfl rfl rfl ?_)) | refine AL.guard_skip rfl rfl rfl rfl rfl ?_)) <;> refine AL.ev rfl rfl rfl rfl ?_ <;> refine AL.ev rfl rfl rfl rfl ?_ <;> (first | (refine AL.guard_do rfl rfl rfl rfl ?_; refine AL.ev rfl rfl rfl rfl ?_) | refine AL.guard_skip rfl rfl rfl rfl rfl ?_ | refine AL.guard_undef rfl rfl rfl rfl ?_ | (refine AL.guard_split rfl rfl rfl (fun hb => ?_) (fun hb => ?_) <;> first | (refine AL.guard_do rfl rfl rfl rfl ?_; refine AL.ev rfl rfl rfl rfl ?_) | refine AL.guard_skip rfl rfl rfl rfl rfl ?_)) <;> (first | (refine AL.guard_do rfl rfl rfl rfl ?_; (first | refine AL.ev rfl rfl rfl rfl ?_ | refine AL.det (AOp.add rfl rfl (by omega)) rfl rfl rfl ?_ | refine AL.det (AOp.sub rfl rfl (by omega)) rfl rfl rfl ?_ | refine AL.det (AOp.bool_eq (by kernel_rfl) rfl rfl) rfl rfl rfl ?_ | refine AL.det (AOp.bool_ne (by kernel_rfl) rfl rfl) rfl rfl rfl ?_)) | refine AL.guard_skip rfl rfl rfl rfl rfl ?_ | refine AL.guard_undef rfl rfl rfl rfl ?_ | (refine AL.guard_split rfl rfl rfl (fun hb => ?_) (fun hb => ?_) <;> first | (refine AL.guard_do rfl rfl rfl rfl ?_; (first | refine AL.ev rfl rfl rfl rfl ?_ | refine AL.det (AOp.add rfl rfl (by omega)) rfl rfl rfl ?_ | refine AL.det (AOp.sub rfl rfl (by omega)) rfl rfl rfl ?_ | refine AL.det (AOp.bool_eq (by kernel_rfl) rfl rfl) rfl rfl rfl ?_ | refine AL.det (AOp.bool_ne (by kernel_rfl) rfl rfl) rfl rfl rfl ?_)) | refine AL.guard_skip rfl rfl rfl rfl rfl ?_)) <;> refine AL.ev rfl rfl rfl rfl ?_ <;> refine AL.nil ?_)
      | (refine AW.region_at 2 ?_ <;> refine AL.ev rfl rfl rfl rfl ?_ <;> refine AL.ev rfl rfl rfl rfl ?_ <;> refine AL.nil ?_)
      | (refine AW.region_at 3 ?_ <;> refine AL.ev rfl rfl rfl rfl ?_ <;> refine AL.ev rfl rfl rfl rfl ?_ <;> refine AL.det (AOp.call rfl rfl h1) rfl rfl rfl ?_ <;> refine AL.ev rfl rfl rfl rfl ?_ <;> refine AL.nil ?_)
      | (refine AW.region_at 4 ?_ <;> refine AL.ev rfl rfl rfl rfl ?_ <;> (first | refine AL.ev rfl rfl rfl rfl ?_ | refine AL.det (AOp.add rfl rfl (by omega)) rfl rfl rfl ?_ | refine AL.det (AOp.sub rfl rfl (by omega)) rfl rfl rfl ?_ | refine AL.det (AOp.bool_eq (by kernel_rfl) rfl rfl) rfl rfl rfl ?_ | refine AL.det (AOp.bool_ne (by kernel_rfl) rfl rfl) rfl rfl rfl ?_) <;> refine AL.nil ?_)
      | (refine AW.region_at 5 ?_ <;> refine AL.ev rfl rfl rfl rfl ?_ <;> refine AL.ev rfl rfl rfl rfl ?_ <;> refine AL.nil ?_)
      | (refine AW.region_at 6 ?_ <;> refine AL.ev rfl rfl rfl rfl ?_ <;> refine AL.ev rfl rfl rfl rfl ?_ <;> refine AL.ev rfl rfl rfl rfl ?_ <;> refine AL.nil ?_)
      | refine AW.cond_true rfl ?_
      | refine AW.cond_false rfl ?_
      | refine AW.block ?_
      | refine AW.endblk ?_
      | refine AW.skip ?_
      | refine AW.exit rfl ?_
      | refine AW.label ?_
      | refine AW.cond rfl (fun hb => ?_) (fun hb => ?_))
    all_goals first
      | (exfalso; simp only [decide_eq_true_eq, decide_eq_false_iff_not] at *; omega)
      | (rename_i h2 h3 h4 h5; refine AW.retv rfl ⟨?_, rfl⟩; simp only [decide_eq_true_eq, decide_eq_false_iff_not] at hb; simp [hb, ofConst])
def elemsB (n : Int) (t : List Int) : Bool := !(t.any fun x => decide (x < 0) || decide (x ≥ n))
theorem elements1 (n x : Int) : Tri Try.prog 79 [.int .i64 x, .at (.int .i64 n)] [] (D (.bool (decide (x < 0) || decide (x ≥ n))) []) := by
  refine Tri.enter 11 Try.func79 rfl rfl rfl rfl fun Fr w0 => ?_
  repeat' (first
    | refine AW.seq ?_
    | (refine AW.region_at 0 ?_ <;> refine AL.ev rfl rfl rfl rfl ?_ <;> refine AL.nil ?_)
    | (refine AW.region_at 1 ?_ <;> refine AL.ev rfl rfl rfl rfl ?_ <;> (first | refine AL.ev rfl rfl rfl rfl ?_ | refine AL.det (AOp.add rfl rfl (by omega)) rfl rfl rfl ?_ | refine AL.det (AOp.sub rfl rfl (by omega)) rfl rfl rfl ?_ | refine AL.det (AOp.bool_eq (by kernel_rfl) rfl rfl) rfl rfl rfl ?_ | refine AL.det (AOp.bool_ne (by kernel_rfl) rfl rfl) rfl rfl rfl ?_) <;> refine AL.ev rfl rfl rfl rfl ?_ <;> (first | (refine AL.guard_do rfl rfl rfl rfl ?_; refine AL.ev rfl rfl rfl rfl ?_) | refine AL.guard_skip rfl rfl rfl rfl rfl ?_ | refine AL.guard_undef rfl rfl rfl rfl ?_ | (refine AL.guard_split rfl rfl rfl (fun hb => ?_) (fun hb => ?_) <;> first | (refine AL.guard_do rfl rfl rfl rfl ?_; refine AL.ev rfl rfl rfl rfl ?_) | refine AL.guard_skip rfl rfl rfl rfl rfl ?_)) <;> (first | (refine AL.guard_do rfl rfl rfl rfl ?_; refine AL.det (AOp.load_at rfl rfl (by kernel_rfl)) rfl rfl rfl ?_) | refine AL.guard_skip rfl rfl rfl rfl rfl ?_ | refine AL.guard_undef rfl rfl rfl rfl ?_ | (refine AL.guard_split rfl rfl rfl (fun hb => ?_) (fun hb => ?_) <;> first | (refine AL.guard_do rfl rfl rfl rfl ?_; refine AL.det (AOp.load_at rfl rfl (by kernel_rfl)) rfl rfl rfl ?_) | refine AL.guard_skip rfl rfl rfl rfl rfl ?_)) <;> (first | (refine AL.guard_do rfl rfl rfl rfl ?_; (first | refine AL.ev rfl rfl rfl rfl ?_ | refine AL.det (AOp.add rfl rfl (by omega)) rfl rfl rfl ?_ | refine AL.det (AOp.sub rfl rfl (by omega)) rfl rfl rfl ?_ | refine AL.det (AOp.bool_eq (by kernel_rfl) rfl rfl) rfl rfl rfl ?_ | refine AL.det (AOp.bool_ne (by kernel_rfl) rfl rfl) rfl rfl rfl ?_)) | refine AL.guard_skip rfl rfl rfl rfl rfl ?_ | refine AL.guard_undef rfl rfl rfl rfl ?_ | (refine AL.guard_split rfl rfl rfl (fun hb => ?_) (fun hb => ?_) <;> first | (refine AL.guard_do rfl rfl rfl rfl ?_; (first | refine AL.ev rfl rfl rfl rfl ?_ | refine AL.det (AOp.add rfl rfl (by omega)) rfl rfl rfl ?_ | refine AL.det (AOp.sub rfl rfl (by omega)) rfl rfl rfl ?_ | refine AL.det (AOp.bool_eq (by kernel_rfl) rfl rfl) rfl rfl rfl ?_ | refine AL.det (AOp.bool_ne (by kernel_rfl) rfl rfl) rfl rfl rfl ?_)) | refine AL.guard_skip rfl rfl rfl rfl rfl ?_)) <;> refine AL.ev rfl rfl rfl rfl ?_ <;> refine AL.ev rfl rfl rfl rfl ?_ <;> refine AL.nil ?_)
    | refine AW.cond_true rfl ?_
    | refine AW.cond_false rfl ?_
    | refine AW.block ?_
    | refine AW.endblk ?_
    | refine AW.skip ?_
    | refine AW.exit rfl ?_
    | refine AW.label ?_
    | refine AW.cond rfl (fun hb => ?_) (fun hb => ?_))
  · exact AW.retv rfl ⟨by simp [hb, ofConst], rfl⟩
  · exact AW.retv rfl ⟨by simp [hb], rfl⟩
theorem shape_elements (n : Int) (t : List Int) (hl : t.length ≤ 4611686018427387904) : Tri Try.prog 63 [.int .i64 n, ints t] [] (D (.bool (elemsB n t)) []) := by
  have hc := ContainsFunc_int t hl 79 [.at (.int .i64 n)] (fun x => decide (x < 0) || decide (x ≥ n)) fun x _ => elements1 n x
  refine Tri.enter 9 Try.func63 rfl rfl rfl rfl fun Fr w0 => ?_
  repeat' (first
    | refine AW.seq ?_
    | (refine AW.region_at 0 ?_ <;> refine AL.det (AOp.box_ro rfl rfl) rfl rfl rfl ?_ <;> refine AL.ev rfl rfl rfl rfl ?_ <;> refine AL.nil ?_)
    | (refine AW.region_at 1 ?_ <;> refine AL.ev rfl rfl rfl rfl ?_ <;> refine AL.ev rfl rfl rfl rfl ?_ <;> refine AL.det (AOp.call rfl rfl hc) rfl rfl rfl ?_ <;> refine AL.ev rfl rfl rfl rfl ?_ <;> refine AL.ev rfl rfl rfl rfl ?_ <;> refine AL.nil ?_)
    | refine AW.cond_true rfl ?_
    | refine AW.cond_false rfl ?_
    | refine AW.block ?_
    | refine AW.endblk ?_
    | refine AW.skip ?_
    | refine AW.exit rfl ?_
    | refine AW.label ?_
    | refine AW.cond rfl (fun hb => ?_) (fun hb => ?_))
  exact AW.retv rfl ⟨rfl, rfl⟩
def rankGo (n : Int) : List Int → Int → Int
  | [], r => r
  | x :: t, r => rankGo n t (r * n + x)
end Go.Proofs.Ytdedkpfbfklgbaa
