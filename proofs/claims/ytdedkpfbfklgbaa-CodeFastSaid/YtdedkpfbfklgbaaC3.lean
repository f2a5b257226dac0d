/- Contracts: bytes, names. -/
import Derived.Test.YtdedkpfbfklgbaaC2
import Derived.Test.YtdedkpfbfklgbaaS2
namespace Go.Proofs.Ytdedkpfbfklgbaa
open Go.RowKit Go.SX
set_option maxRecDepth 100000
set_option linter.unusedVariables false
set_option linter.unusedSimpArgs false

def letterB (n : Int) : Bool := decide (97 ≤ n) && decide (n ≤ 122) || decide (65 ≤ n) && decide (n ≤ 90)
def digitB (n : Int) : Bool := decide (48 ≤ n) && decide (n ≤ 57)
theorem shape_letter (n : Int) : Tri Try.prog 68 [.int .u8 n] [] (D (.bool (letterB n)) []) := by
  refine Tri.enter 17 Try.func68 rfl rfl rfl rfl fun Fr w0 => ?_
  repeat' (first
    | refine AW.seq ?_
    | (refine AW.region_at 0 ?_ <;> refine AL.ev rfl rfl rfl rfl ?_ <;> refine AL.nil ?_)
    | (refine AW.region_at 1 ?_ <;> refine AL.ev rfl rfl rfl rfl ?_ <;> (first | refine AL.ev rfl rfl rfl rfl ?_ | refine AL.det (AOp.add rfl rfl (by omega)) rfl rfl rfl ?_ | refine AL.det (AOp.sub rfl rfl (by omega)) rfl rfl rfl ?_ | refine AL.det (AOp.bool_eq (by kernel_rfl) rfl rfl) rfl rfl rfl ?_ | refine AL.det (AOp.bool_ne (by kernel_rfl) rfl rfl) rfl rfl rfl ?_) <;> refine AL.ev rfl rfl rfl rfl ?_ <;> (first | (refine AL.guard_do rfl rfl rfl rfl ?_; refine AL.ev rfl rfl rfl rfl ?_) | refine AL.guard_skip rfl rfl rfl rfl rfl ?_ | refine AL.guard_undef rfl rfl rfl rfl ?_ | (refine AL.guard_split rfl rfl rfl (fun hb => ?_) (fun hb => ?_) <;> first | (refine AL.guard_do rfl rfl rfl rfl ?_; refine AL.ev rfl rfl rfl rfl ?_) | refine AL.guard_skip rfl rfl rfl rfl rfl ?_)) <;> (first | (refine AL.guard_do rfl rfl rfl rfl ?_; (first | refine AL.ev rfl rfl rfl rfl ?_ | refine AL.det (AOp.add rfl rfl (by omega)) rfl rfl rfl ?_ | refine AL.det (AOp.sub rfl rfl (by omega)) rfl rfl rfl ?_ | refine AL.det (AOp.bool_eq (by kernel_rfl) rfl rfl) rfl rfl rfl ?_ | refine AL.det (AOp.bool_ne (by kernel_rfl) rfl rfl) rfl rfl rfl ?_)) | refine AL.guard_skip rfl rfl rfl rfl rfl ?_ | refine AL.guard_undef rfl rfl rfl rfl ?_ | (refine AL.guard_split rfl rfl rfl (fun hb => ?_) (fun hb => ?_) <;> first | (refine AL.guard_do rfl rfl rfl rfl ?_; (first | refine AL.ev rfl rfl rfl rfl ?_ | refine AL.det (AOp.add rfl rfl (by omega)) rfl rfl rfl ?_ | refine AL.det (AOp.sub rfl rfl (by omega)) rfl rfl rfl ?_ | refine AL.det (AOp.bool_eq (by kernel_rfl) rfl rfl) rfl rfl rfl ?_ | refine AL.det (AOp.bool_ne (by kernel_rfl) rfl rfl) rfl rfl rfl ?_)) | refine AL.guard_skip rfl rfl rfl rfl rfl ?_)) <;> refine AL.ev rfl rfl rfl rfl ?_ <;> refine AL.ev rfl rfl rfl rfl ?_ <;> (first | (refine AL.guard_do rfl rfl rfl rfl ?_; refine AL.ev rfl rfl rfl rfl ?_) | refine AL.guard_skip rfl rfl rfl rfl rfl ?_ | refine AL.guard_undef rfl rfl rfl rfl ?_ | (refine AL.guard_split rfl rfl rfl (fun hb => ?_) (fun hb => ?_) <;> first | (refine AL.guard_do rfl rfl rfl rfl ?_; refine AL.ev rfl rfl rfl rfl ?_) | refine AL.guard_skip rfl rfl rfl rfl rfl ?_)) <;> (first | (refine AL.guard_do rfl rfl rfl rfl ?_; (first | refine AL.ev rfl rfl rfl rfl ?_ | refine AL.det (AOp.add rfl rfl (by omega)) rfl rfl rfl ?_ | refine AL.det (AOp.sub rfl rfl (by omega)) rfl rfl rfl ?_ | refine AL.det (AOp.bool_eq (by kernel_rfl) rfl rfl) rfl rfl rfl ?_ | refine AL.det (AOp.bool_ne (by kernel_rfl) rfl rfl) rfl rfl rfl ?_)) | refine AL.guard_skip rfl rfl rfl rfl rfl ?_ | refine AL.guard_undef rfl rfl rfl rfl ?_ | (refine AL.guard_split rfl rfl rfl (fun hb => ?_) (fun hb => ?_) <;> first | (refine AL.guard_do rfl rfl rfl rfl ?_; (first | refine AL.ev rfl rfl rfl rfl ?_ | refine AL.det (AOp.add rfl rfl (by omega)) rfl rfl rfl ?_ | refine AL.det (AOp.sub rfl rfl (by omega)) rfl rfl rfl ?_ | refine AL.det (AOp.bool_eq (by kernel_rfl) rfl rfl) rfl rfl rfl ?_ | refine AL.det (AOp.bool_ne (by kernel_rfl) rfl rfl) rfl rfl rfl ?_)) | refine AL.guard_skip rfl rfl rfl rfl rfl ?_)) <;> (first | (refine AL.guard_do rfl rfl rfl rfl ?_; refine AL.ev rfl rfl rfl rfl ?_) | refine AL.guard_skip rfl rfl rfl rfl rfl ?_ | refine AL.guard_undef rfl rfl rfl rfl ?_ | (refine AL.guard_split rfl rfl rfl (fun hb => ?_) (fun hb => ?_) <;> first | (refine AL.guard_do rfl rfl rfl rfl ?_; refine AL.ev rfl rfl rfl rfl ?_) | refine AL.guard_skip rfl rfl rfl rfl rfl ?_)) <;> (first | (refine AL.guard_do rfl rfl rfl rfl ?_; refine AL.ev rfl rfl rfl rfl ?_) | refine AL.guard_skip rfl rfl rfl rfl rfl ?_ | refine AL.guard_undef rfl rfl rfl rfl ?_ | (refine AL.guard_split rfl rfl rfl (fun hb => ?_) (fun hb => ?_) <;> first | (refine AL.guard_do rfl rfl rfl rfl ?_; refine AL.ev rfl rfl rfl rfl ?_) | refine AL.guard_skip rfl rfl rfl rfl rfl ?_)) <;> (first | (refine AL.guard_do rfl rfl rfl rfl ?_; (first | refine AL.ev rfl rfl rfl rfl ?_ | refine AL.det (AOp.add rfl rfl (by omega)) rfl rfl rfl ?_ | refine AL.det (AOp.sub rfl rfl (by omega)) rfl rfl rfl ?_ | refine AL.det (AOp.bool_eq (by kernel_rfl) rfl rfl) rfl rfl rfl ?_ | refine AL.det (AOp.bool_ne (by kernel_rfl) rfl rfl) rfl rfl rfl ?_)) | refine AL.guard_skip rfl rfl rfl rfl rfl ?_ | refine AL.guard_undef rfl rfl rfl rfl ?_ | (refine AL.guard_split rfl rfl rfl (fun hb => ?_) (fun hb => ?_) <;> first | (refine AL.guard_do rfl rfl rfl rfl ?_; (first | refine AL.ev rfl rfl rfl rfl ?_ | refine AL.det (AOp.add rfl rfl (by omega)) rfl rfl rfl ?_ | refine AL.det (AOp.sub rfl rfl (by omega)) rfl rfl rfl ?_ | refine AL.det (AOp.bool_eq (by kernel_rfl) rfl rfl) rfl rfl rfl ?_ | refine AL.det (AOp.bool_ne (by kernel_rfl) rfl rfl) rfl rfl rfl ?_)) | refine AL.guard_skip rfl rfl rfl rfl rfl ?_)) <;> (first | (refine AL.guard_do rfl rfl rfl rfl ?_; refine AL.ev rfl rfl rfl rfl ?_) | refine AL.guard_skip rfl rfl rfl rfl rfl ?_ | refine AL.guard_undef rfl rfl rfl rfl ?_ | (refine AL.guard_split rfl rfl rfl (fun hb => ?_) (fun hb => ?_) <;> first | (refine AL.guard_do rfl rfl rfl rfl ?_; refine AL.ev rfl rfl rfl rfl ?_) | refine AL.guard_skip rfl rfl rfl rfl rfl ?_)) <;> refine AL.ev rfl rfl rfl rfl ?_ <;> refine AL.ev rfl rfl rfl rfl ?_ <;> refine AL.nil ?_)
    | refine AW.cond_true rfl ?_
    | refine AW.cond_false rfl ?_
    | refine AW.block ?_
    | refine AW.endblk ?_
    | refine AW.skip ?_
    | refine AW.exit rfl ?_
    | refine AW.label ?_
    | refine AW.cond rfl (fun hb => ?_) (fun hb => ?_))
  all_goals refine AW.retv rfl ⟨?_, rfl⟩
  all_goals simp_all [letterB, ofConst]
  all_goals omega
theorem shape_digit (n : Int) : Tri Try.prog 70 [.int .u8 n] [] (D (.bool (digitB n)) []) := by
  refine Tri.enter 9 Try.func70 rfl rfl rfl rfl fun Fr w0 => ?_
  repeat' (first
    | refine AW.seq ?_
    | (refine AW.region_at 0 ?_ <;> refine AL.ev rfl rfl rfl rfl ?_ <;> refine AL.nil ?_)
    | (refine AW.region_at 1 ?_ <;> refine AL.ev rfl rfl rfl rfl ?_ <;> (first | refine AL.ev rfl rfl rfl rfl ?_ | refine AL.det (AOp.add rfl rfl (by omega)) rfl rfl rfl ?_ | refine AL.det (AOp.sub rfl rfl (by omega)) rfl rfl rfl ?_ | refine AL.det (AOp.bool_eq (by kernel_rfl) rfl rfl) rfl rfl rfl ?_ | refine AL.det (AOp.bool_ne (by kernel_rfl) rfl rfl) rfl rfl rfl ?_) <;> refine AL.ev rfl rfl rfl rfl ?_ <;> (first | (refine AL.guard_do rfl rfl rfl rfl ?_; refine AL.ev rfl rfl rfl rfl ?_) | refine AL.guard_skip rfl rfl rfl rfl rfl ?_ | refine AL.guard_undef rfl rfl rfl rfl ?_ | (refine AL.guard_split rfl rfl rfl (fun hb => ?_) (fun hb => ?_) <;> first | (refine AL.guard_do rfl rfl rfl rfl ?_; refine AL.ev rfl rfl rfl rfl ?_) | refine AL.guard_skip rfl rfl rfl rfl rfl ?_)) <;> (first | (refine AL.guard_do rfl rfl rfl rfl ?_; (first | refine AL.ev rfl rfl rfl rfl ?_ | refine AL.det (AOp.add rfl rfl (by omega)) rfl rfl rfl ?_ | refine AL.det (AOp.sub rfl rfl (by omega)) rfl rfl rfl ?_ | refine AL.det (AOp.bool_eq (by kernel_rfl) rfl rfl) rfl rfl rfl ?_ | refine AL.det (AOp.bool_ne (by kernel_rfl) rfl rfl) rfl rfl rfl ?_)) | refine AL.guard_skip rfl rfl rfl rfl rfl ?_ | refine AL.guard_undef rfl rfl rfl rfl ?_ | (refine AL.guard_split rfl rfl rfl (fun hb => ?_) (fun hb => ?_) <;> first | (refine AL.guard_do rfl rfl rfl rfl ?_; (first | refine AL.ev rfl rfl rfl rfl ?_ | refine AL.det (AOp.add rfl rfl (by omega)) rfl rfl rfl ?_ | refine AL.det (AOp.sub rfl rfl (by omega)) rfl rfl rfl ?_ | refine AL.det (AOp.bool_eq (by kernel_rfl) rfl rfl) rfl rfl rfl ?_ | refine AL.det (AOp.bool_ne (by kernel_rfl) rfl rfl) rfl rfl rfl ?_)) | refine AL.guard_skip rfl rfl rfl rfl rfl ?_)) <;> refine AL.ev rfl rfl rfl rfl ?_ <;> refine AL.ev rfl rfl rfl rfl ?_ <;> refine AL.nil ?_)
    | refine AW.cond_true rfl ?_
    | refine AW.cond_false rfl ?_
    | refine AW.block ?_
    | refine AW.endblk ?_
    | refine AW.skip ?_
    | refine AW.exit rfl ?_
    | refine AW.label ?_
    | refine AW.cond rfl (fun hb => ?_) (fun hb => ?_))
  all_goals refine AW.retv rfl ⟨?_, rfl⟩
  all_goals simp_all [digitB, ofConst]
  all_goals omega
def wordB (s : ByteArray) : Bool := decide (s = ⟨#[97, 110, 100]⟩) || decide (s = ⟨#[111, 114]⟩) || decide (s = ⟨#[110, 111, 116]⟩) || decide (s = ⟨#[115, 111, 109, 101]⟩) || decide (s = ⟨#[97, 108, 108]⟩) || decide (s = ⟨#[108, 102, 112]⟩) || decide (s = ⟨#[112, 102, 112]⟩) ||
  decide (s = ⟨#[116, 99]⟩) || decide (s = ⟨#[101, 120, 105, 115, 116, 115]⟩) || decide (s = ⟨#[116, 114, 117, 101]⟩) || decide (s = ⟨#[102, 97, 108, 115, 101]⟩)
theorem shape_word (s : ByteArray) : Tri Try.prog 69 [.str s] [] (D (.bool (wordB s)) []) := by
  refine Tri.enter 16 Try.func69 rfl rfl rfl rfl fun Fr w0 => ?_
  repeat' (first
    | refine AW.seq ?_
    | (refine AW.region_at 0 ?_ <;> refine AL.ev rfl rfl rfl rfl ?_ <;> refine AL.nil ?_)
    | (refine AW.region_at 1 ?_ <;> refine AL.ev rfl rfl rfl rfl ?_ <;> refine AL.nil ?_)
    | (refine AW.region_at 2 ?_ <;> (first | refine AL.ev rfl rfl rfl rfl ?_ | refine AL.det (AOp.add rfl rfl (by omega)) rfl rfl rfl ?_ | refine AL.det (AOp.sub rfl rfl (by omega)) rfl rfl rfl ?_ | refine AL.det (AOp.bool_eq (by kernel_rfl) rfl rfl) rfl rfl rfl ?_ | refine AL.det (AOp.bool_ne (by kernel_rfl) rfl rfl) rfl rfl rfl ?_) <;> refine AL.ev rfl rfl rfl rfl ?_ <;> refine AL.nil ?_)
    | (refine AW.region_at 3 ?_ <;> (first | refine AL.ev rfl rfl rfl rfl ?_ | refine AL.det (AOp.add rfl rfl (by omega)) rfl rfl rfl ?_ | refine AL.det (AOp.sub rfl rfl (by omega)) rfl rfl rfl ?_ | refine AL.det (AOp.bool_eq (by kernel_rfl) rfl rfl) rfl rfl rfl ?_ | refine AL.det (AOp.bool_ne (by kernel_rfl) rfl rfl) rfl rfl rfl ?_) <;> refine AL.ev rfl rfl rfl rfl ?_ <;> refine AL.nil ?_)
    | (refine AW.region_at 4 ?_ <;> (first | refine AL.ev rfl rfl rfl rfl ?_ | refine AL.det (AOp.add rfl rfl (by omega)) rfl rfl rfl ?_ | refine AL.det (AOp.sub rfl rfl (by omega)) rfl rfl rfl ?_ | refine AL.det (AOp.bool_eq (by kernel_rfl) rfl rfl) rfl rfl rfl ?_ | refine AL.det (AOp.bool_ne (by kernel_rfl) rfl rfl) rfl rfl rfl ?_) <;> refine AL.ev rfl rfl rfl rfl ?_ <;> refine AL.nil ?_)
    | (refine AW.region_at 5 ?_ <;> (first | refine AL.ev rfl rfl rfl rfl ?_ | refine AL.det (AOp.add rfl rfl (by omega)) rfl rfl rfl ?_ | refine AL.det (AOp.sub rfl rfl (by omega)) rfl rfl rfl ?_ | refine AL.det (AOp.bool_eq (by kernel_rfl) rfl rfl) rfl rfl rfl ?_ | refine AL.det (AOp.bool_ne (by kernel_rfl) rfl rfl) rfl rfl rfl ?_) <;> refine AL.ev rfl rfl rfl rfl ?_ <;> refine AL.nil ?_)
    | (refine AW.region_at 6 ?_ <;> (first | refine AL.ev rfl rfl rfl rfl ?_ | refine AL.det (AOp.add rfl rfl (by omega)) rfl rfl rfl ?_ | refine AL.det (AOp.sub rfl rfl (by omega)) rfl rfl rfl ?_ | refine AL.det (AOp.bool_eq (by kernel_rfl) rfl rfl) rfl rfl rfl ?_ | refine AL.det (AOp.bool_ne (by kernel_rfl) rfl rfl) rfl rfl rfl ?_) <;> refine AL.ev rfl rfl rfl rfl ?_ <;> refine AL.nil ?_)
    | (refine AW.region_at 7 ?_ <;> (first | refine AL.ev rfl rfl rfl rfl ?_ | refine AL.det (AOp.add rfl rfl (by omega)) rfl rfl rfl ?_ | refine AL.det (AOp.sub rfl rfl (by omega)) rfl rfl rfl ?_ | refine AL.det (AOp.bool_eq (by kernel_rfl) rfl rfl) rfl rfl rfl ?_ | refine AL.det (AOp.bool_ne (by kernel_rfl) rfl rfl) rfl rfl rfl ?_) <;> refine AL.ev rfl rfl rfl rfl ?_ <;> refine AL.nil ?_)
    | (refine AW.region_at 8 ?_ <;> (first | refine AL.ev rfl rfl rfl rfl ?_ | refine AL.det (AOp.add rfl rfl (by omega)) rfl rfl rfl ?_ | refine AL.det (AOp.sub rfl rfl (by omega)) rfl rfl rfl ?_ | refine AL.det (AOp.bool_eq (by kernel_rfl) rfl rfl) rfl rfl rfl ?_ | refine AL.det (AOp.bool_ne (by kernel_rfl) rfl rfl) rfl rfl rfl ?_) <;> refine AL.ev rfl rfl rfl rfl ?_ <;> refine AL.nil ?_)
    | (refine AW.region_at 9 ?_ <;> (first | refine AL.ev rfl rfl rfl rfl ?_ | refine AL.det (AOp.add rfl rfl (by omega)) rfl rfl rfl ?_ | refine AL.det (AOp.sub rfl rfl (by omega)) rfl rfl rfl ?_ | refine AL.det (AOp.bool_eq (by kernel_rfl) rfl rfl) rfl rfl rfl ?_ | refine AL.det (AOp.bool_ne (by kernel_rfl) rfl rfl) rfl rfl rfl ?_) <;> refine AL.ev rfl rfl rfl rfl ?_ <;> refine AL.nil ?_)
    | (refine AW.region_at 10 ?_ <;> (first | refine AL.ev rfl rfl rfl rfl ?_ | refine AL.det (AOp.add rfl rfl (by omega)) rfl rfl rfl ?_ | refine AL.det (AOp.sub rfl rfl (by omega)) rfl rfl rfl ?_ | refine AL.det (AOp.bool_eq (by kernel_rfl) rfl rfl) rfl rfl rfl ?_ | refine AL.det (AOp.bool_ne (by kernel_rfl) rfl rfl) rfl rfl rfl ?_) <;> refine AL.ev rfl rfl rfl rfl ?_ <;> refine AL.nil ?_)
    | (refine AW.region_at 11 ?_ <;> (first | refine AL.ev rfl rfl rfl rfl ?_ | refine AL.det (AOp.add rfl rfl (by omega)) rfl rfl rfl ?_ | refine AL.det (AOp.sub rfl rfl (by omega)) rfl rfl rfl ?_ | refine AL.det (AOp.bool_eq (by kernel_rfl) rfl rfl) rfl rfl rfl ?_ | refine AL.det (AOp.bool_ne (by kernel_rfl) rfl rfl) rfl rfl rfl ?_) <;> refine AL.ev rfl rfl rfl rfl ?_ <;> refine AL.nil ?_)
    | (refine AW.region_at 12 ?_ <;> (first | refine AL.ev rfl rfl rfl rfl ?_ | refine AL.det (AOp.add rfl rfl (by omega)) rfl rfl rfl ?_ | refine AL.det (AOp.sub rfl rfl (by omega)) rfl rfl rfl ?_ | refine AL.det (AOp.bool_eq (by kernel_rfl) rfl rfl) rfl rfl rfl ?_ | refine AL.det (AOp.bool_ne (by kernel_rfl) rfl rfl) rfl rfl rfl ?_) <;> refine AL.ev rfl rfl rfl rfl ?_ <;> refine AL.nil ?_)
    | (refine AW.region_at 13 ?_ <;> refine AL.ev rfl rfl rfl rfl ?_ <;> refine AL.nil ?_)
    | (refine AW.region_at 14 ?_ <;> refine AL.ev rfl rfl rfl rfl ?_ <;> refine AL.nil ?_)
    | refine AW.cond_true rfl ?_
    | refine AW.cond_false rfl ?_
    | refine AW.block ?_
    | refine AW.endblk ?_
    | refine AW.skip ?_
    | refine AW.exit rfl ?_
    | refine AW.label ?_
    | refine AW.cond rfl (fun hb => ?_) (fun hb => ?_))
  all_goals refine AW.retv rfl ⟨?_, rfl⟩
  all_goals simp only [toList_beq, decide_eq_true_eq, decide_eq_false_iff_not] at *
  all_goals simp_all [wordB, ofConst]
def nameB (s : ByteArray) : Bool := decide (0 < s.size) && decide (s.size ≤ 12) && letterB (byteAt s 0) && !wordB s && (List.range s.size).all fun i => letterB (byteAt s i) || digitB (byteAt s i)
theorem nameB_false {s : ByteArray} {k : Nat} (hk : k < s.size) (h1 : letterB (byteAt s k) = false) (h2 : digitB (byteAt s k) = false) : nameB s = false := by
  have : ((List.range s.size).all fun i => letterB (byteAt s i) || digitB (byteAt s i)) = false := by
    rw [Bool.eq_false_iff]
    intro h
    rw [List.all_eq_true] at h
    have := h k (List.mem_range.2 hk)
    simp [h1, h2] at this
  simp [nameB, this]
theorem shape_Name (s : ByteArray) (hs : strOk s) : Tri Try.prog 36 [.str s] [] (D (.bool (nameB s)) []) := by
  unfold strOk at hs
  refine Tri.enter 39 Try.func36 rfl rfl rfl rfl fun Fr w0 => ?_
  repeat' (first
    | refine AW.seq ?_
    | (refine AW.region_at 0 ?_ <;> refine AL.ev rfl rfl rfl rfl ?_ <;> refine AL.nil ?_)
    | (refine AW.region_at 1 ?_ <;> refine AL.ev rfl rfl rfl rfl ?_ <;> (first | refine AL.ev rfl rfl rfl rfl ?_ | refine AL.det (AOp.add rfl rfl (by omega)) rfl rfl rfl ?_ | refine AL.det (AOp.sub rfl rfl (by omega)) rfl rfl rfl ?_ | refine AL.det (AOp.bool_eq (by kernel_rfl) rfl rfl) rfl rfl rfl ?_ | refine AL.det (AOp.bool_ne (by kernel_rfl) rfl rfl) rfl rfl rfl ?_) <;> refine AL.ev rfl rfl rfl rfl ?_ <;> (first | (refine AL.guard_do rfl rfl rfl rfl ?_; refine AL.ev rfl rfl rfl rfl ?_) | refine AL.guard_skip rfl rfl rfl rfl rfl ?_ | refine AL.guard_undef rfl rfl rfl rfl ?_ | (refine AL.guard_split rfl rfl rfl (fun hb => ?_) (fun hb => ?_) <;> first | (refine AL.guard_do rfl rfl rfl rfl ?_; refine AL.ev rfl rfl rfl rfl ?_) | refine AL.guard_skip rfl rfl rfl rfl rfl ?_)) <;> (first | (refine AL.guard_do rfl rfl rfl rfl ?_; refine AL.det (AOp.len rfl rfl (by kernel_rfl)) rfl rfl rfl ?_) | refine AL.guard_skip rfl rfl rfl rfl rfl ?_ | refine AL.guard_undef rfl rfl rfl rfl ?_ | (refine AL.guard_split rfl rfl rfl (fun hb => ?_) (fun hb => ?_) <;> first | (refine AL.guard_do rfl rfl rfl rfl ?_; refine AL.det (AOp.len rfl rfl (by kernel_rfl)) rfl rfl rfl ?_) | refine AL.guard_skip rfl rfl rfl rfl rfl ?_)) <;> (first | (refine AL.guard_do rfl rfl rfl rfl ?_; (first | refine AL.ev rfl rfl rfl rfl ?_ | refine AL.det (AOp.add rfl rfl (by omega)) rfl rfl rfl ?_ | refine AL.det (AOp.sub rfl rfl (by omega)) rfl rfl rfl ?_ | refine AL.det (AOp.bool_eq (by kernel_rfl) rfl rfl) rfl rfl rfl ?_ | refine AL.det (AOp.bool_ne (by kernel_rfl) rfl rfl) rfl rfl rfl ?_)) | refine AL.guard_skip rfl rfl rfl rfl rfl ?_ | refine AL.guard_undef rfl rfl rfl rfl ?_ | (refine AL.guard_split rfl rfl rfl (fun hb => ?_) (fun hb => ?_) <;> first | (refine AL.guard_do rfl rfl rfl rfl ?_; (first | refine AL.ev rfl rfl rfl rfl ?_ | refine AL.det (AOp.add rfl rfl (by omega)) rfl rfl rfl ?_ | refine AL.det (AOp.sub rfl rfl (by omega)) rfl rfl rfl ?_ | refine AL.det (AOp.bool_eq (by kernel_rfl) rfl rfl) rfl rfl rfl ?_ | refine AL.det (AOp.bool_ne (by kernel_rfl) rfl rfl) rfl rfl rfl ?_)) | refine AL.guard_skip rfl rfl rfl rfl rfl ?_)) <;> refine AL.ev rfl rfl rfl rfl ?_ <;> refine AL.ev rfl rfl rfl rfl ?_ <;> (first | (refine AL.guard_do rfl rfl rfl rfl ?_; refine AL.ev rfl rfl rfl rfl ?_) | refine AL.guard_skip rfl rfl rfl rfl rfl ?_ | refine AL.guard_undef rfl rfl rfl rfl ?_ | (refine AL.guard_split rfl rfl rfl (fun hb => ?_) (fun hb => ?_) <;> first | (refine AL.guard_do rfl rfl rfl rfl ?_; refine AL.ev rfl rfl rfl rfl ?_) | refine AL.guard_skip rfl rfl rfl rfl rfl ?_)) <;> (first | (refine AL.guard_do rfl rfl rfl rfl ?_; refine AL.det (AOp.str_at (by kernel_rfl) rfl rfl (by omega) (by have h0 := size_pos_of (by assumption); first | exact h0 | omega)) rfl rfl rfl ?_) | refine AL.guard_skip rfl rfl rfl rfl rfl ?_ | refine AL.guard_undef rfl rfl rfl rfl ?_ | (refine AL.guard_split rfl rfl rfl (fun hb => ?_) (fun hb => ?_) <;> first | (refine AL.guard_do rfl rfl rfl rfl ?_; refine AL.det (AOp.str_at (by kernel_rfl) rfl rfl (by omega) (by have h0 := size_pos_of (by assumption); first | exact h0 | omega)) rfl rfl rfl ?_) | refine AL.guard_skip rfl rfl rfl rfl rfl ?_)) <;> (first | (refine AL.guard_do rfl rfl rfl rfl ?_; (first | refine AL.det (AOp.call rfl rfl (shape_letter _)) rfl rfl rfl ?_ | refine AL.det (AOp.call rfl rfl (shape_word _)) rfl rfl rfl ?_)) | refine AL.guard_skip rfl rfl rfl rfl rfl ?_ | refine AL.guard_undef rfl rfl rfl rfl ?_ | (refine AL.guard_split rfl rfl rfl (fun hb => ?_) (fun hb => ?_) <;> first | (refine AL.guard_do rfl rfl rfl rfl ?_; (first | refine AL.det (AOp.call rfl rfl (shape_letter _)) rfl rfl rfl ?_ | refine AL.det (AOp.call rfl rfl (shape_word _)) rfl rfl rfl ?_)) | refine AL.guard_skip rfl rfl rfl rfl rfl ?_)) <;> (first | (refine AL.guard_do rfl rfl rfl rfl ?_; refine AL.ev rfl rfl rfl rfl ?_) | refine AL.guard_skip rfl rfl rfl rfl rfl ?_ | refine AL.guard_undef rfl rfl rfl rfl ?_ | (refine AL.guard_split rfl rfl rfl (fun hb => ?_) (fun hb => ?_) <;> first | (refine AL.guard_do rfl rfl rfl rfl ?_; refine AL.ev rfl rfl rfl rfl ?_) | refine AL.guard_skip rfl rfl rfl rfl rfl ?_)) <;> refine AL.ev rfl rfl rfl rfl ?_ <;> refine AL.ev rfl rfl rfl rfl ?_ <;> (first | (refine AL.guard_do rfl rfl rfl rfl ?_; refine AL.ev rfl rfl rfl rfl ?_) | refine AL.guard_skip rfl rfl rfl rfl rfl ?_ | refine AL.guard_undef rfl rfl rfl rfl ?_ | (refine AL.guard_split rfl rfl rfl (fun hb => ?_) (fun hb => ?_) <;> first | (refine AL.guard_do rfl rfl rfl rfl ?_; refine AL.ev rfl rfl rfl rfl ?_) | refine AL.guard_skip rfl rfl rfl rfl rfl ?_)) <;> (first | (refine AL.guard_do rfl rfl rfl rfl ?_; (first | refine AL.det (AOp.call rfl rfl (shape_letter _)) rfl rfl rfl ?_ | refine AL.det (AOp.call rfl rfl (shape_word _)) rfl rfl rfl ?_)) | refine AL.guard_skip rfl rfl rfl rfl rfl ?_ | refine AL.guard_undef rfl rfl rfl rfl ?_ | (refine AL.guard_split rfl rfl rfl (fun hb => ?_) (fun hb => ?_) <;> first | (refine AL.guard_do rfl rfl rfl rfl ?_; (first | refine AL.det (AOp.call rfl rfl (shape_letter _)) rfl rfl rfl ?_ | refine AL.det (AOp.call rfl rfl (shape_word _)) rfl rfl rfl ?_)) | refine AL.guard_skip rfl rfl rfl rfl rfl ?_)) <;> refine AL.ev rfl rfl rfl rfl ?_ <;> refine AL.nil ?_)
    | (refine AW.region_at 2 ?_ <;> refine AL.ev rfl rfl rfl rfl ?_ <;> refine AL.nil ?_)
    | (refine AW.region_at 3 ?_ <;> refine AL.ev rfl rfl rfl rfl ?_ <;> refine AL.det (AOp.len rfl rfl (by kernel_rfl)) rfl rfl rfl ?_ <;> refine AL.ev rfl rfl rfl rfl ?_ <;> refine AL.nil ?_)
    | refine AW.cond_true rfl ?_
    | refine AW.cond_false rfl ?_
    | refine AW.block ?_
    | refine AW.endblk ?_
    | refine AW.skip ?_
    | refine AW.exit rfl ?_
    | refine AW.label ?_
    | refine AW.cond rfl (fun hb => ?_) (fun hb => ?_))
  · have h := size_zero_of hb
    exact AW.retv rfl ⟨by simp [nameB, h, ofConst], rfl⟩
  · have h := of_decide_eq_true hb
    have h' : ¬ s.size ≤ 12 := by omega
    exact AW.retv rfl ⟨by simp [nameB, h', ofConst], rfl⟩
  · have h : letterB (byteAt s 0) = false := by simpa using hb
    exact AW.retv rfl ⟨by simp [nameB, h, ofConst], rfl⟩
  · have h : wordB s = true := hb
    exact AW.retv rfl ⟨by simp [nameB, h, ofConst], rfl⟩
  rename_i h1 h2 h3
  have k1 := size_pos_of h1
  have k2 : s.size ≤ 12 := by have := of_decide_eq_false h2; omega
  have k3 : letterB (byteAt s 0) = true := by simpa using h3
  have k4 : wordB s = false := hb
  clear h1 h2 h3 hb
  refine AW.prune [0, 22, 23] (AW.loop (fun m af h => ∃ k : Nat, k ≤ s.size ∧ m = s.size - k ∧ af = [(0, .str s), (22, .int .i64 s.size), (23, .int .i64 k)] ∧ h = [] ∧ ∀ j, j < k → (letterB (byteAt s j) || digitB (byteAt s j)) = true) s.size ⟨0, Nat.zero_le _, rfl, rfl, rfl, by omega⟩ ?_)
  rintro m af h ⟨k, hk, rfl, rfl, rfl, hp⟩
  repeat' (first
    | refine AW.seq ?_
    | (refine AW.region_at 0 ?_ <;> refine AL.ev rfl rfl rfl rfl ?_ <;> refine AL.nil ?_)
    | (refine AW.region_at 1 ?_ <;> refine AL.ev rfl rfl rfl rfl ?_ <;> (first | refine AL.ev rfl rfl rfl rfl ?_ | refine AL.det (AOp.add rfl rfl (by omega)) rfl rfl rfl ?_ | refine AL.det (AOp.sub rfl rfl (by omega)) rfl rfl rfl ?_ | refine AL.det (AOp.bool_eq (by kernel_rfl) rfl rfl) rfl rfl rfl ?_ | refine AL.det (AOp.bool_ne (by kernel_rfl) rfl rfl) rfl rfl rfl ?_) <;> refine AL.ev rfl rfl rfl rfl ?_ <;> (first | (refine AL.guard_do rfl rfl rfl rfl ?_; refine AL.ev rfl rfl rfl rfl ?_) | refine AL.guard_skip rfl rfl rfl rfl rfl ?_ | refine AL.guard_undef rfl rfl rfl rfl ?_ | (refine AL.guard_split rfl rfl rfl (fun hb => ?_) (fun hb => ?_) <;> first | (refine AL.guard_do rfl rfl rfl rfl ?_; refine AL.ev rfl rfl rfl rfl ?_) | refine AL.guard_skip rfl rfl rfl rfl rfl ?_)) <;> (first | (refine AL.guard_do rfl rfl rfl rfl ?_; refine AL.det (AOp.len rfl rfl (by kernel_rfl)) rfl rfl rfl ?_) | refine AL.guard_skip rfl rfl rfl rfl rfl ?_ | refine AL.guard_undef rfl rfl rfl rfl ?_ | (refine AL.guard_split rfl rfl rfl (fun hb => ?_) (fun hb => ?_) <;> first | (refine AL.guard_do rfl rfl rfl rfl ?_; refine AL.det (AOp.len rfl rfl (by kernel_rfl)) rfl rfl rfl ?_) | refine AL.guard_skip rfl rfl rfl rfl rfl ?_)) <;> (first | (refine AL.guard_do rfl rfl rfl rfl ?_; (first | refine AL.ev rfl rfl rfl rfl ?_ | refine AL.det (AOp.add rfl rfl (by omega)) rfl rfl rfl ?_ | refine AL.det (AOp.sub rfl rfl (by omega)) rfl rfl rfl ?_ | refine AL.det (AOp.bool_eq (by kernel_rfl) rfl rfl) rfl rfl rfl ?_ | refine AL.det (AOp.bool_ne (by kernel_rfl) rfl rfl) rfl rfl rfl ?_)) | refine AL.guard_skip rfl rfl rfl rfl rfl ?_ | refine AL.guard_undef rfl rfl rfl rfl ?_ | (refine AL.guard_split rfl rfl rfl (fun hb => ?_) (fun hb => ?_) <;> first | (refine AL.guard_do rfl rfl rfl rfl ?_; (first | refine AL.ev rfl rfl rfl rfl ?_ | refine AL.det (AOp.add rfl rfl (by omega)) rfl rfl rfl ?_ | refine AL.det (AOp.sub rfl rfl (by omega)) rfl rfl rfl ?_ | refine AL.det (AOp.bool_eq (by kernel_rfl) rfl rfl) rfl rfl rfl ?_ | refine AL.det (AOp.bool_ne (by kernel_rfl) rfl rfl) rfl rfl rfl ?_)) | refine AL.guard_skip rfl rfl rfl rfl rfl ?_)) <;> refine AL.ev rfl rfl rfl rfl ?_ <;> refine AL.ev rfl rfl rfl rfl ?_ <;> (first | (refine AL.guard_do rfl rfl rfl rfl ?_; refine AL.ev rfl rfl rfl rfl ?_) | refine AL.guard_skip rfl rfl rfl rfl rfl ?_ | refine AL.guard_undef rfl rfl rfl rfl ?_ | (refine AL.guard_split rfl rfl rfl (fun hb => ?_) (fun hb => ?_) <;> first | (refine AL.guard_do rfl rfl rfl rfl ?_; refine AL.ev rfl rfl rfl rfl ?_) | refine AL.guard_skip rfl rfl rfl rfl rfl ?_)) <;> (first | (refine AL.guard_do rfl rfl rfl rfl ?_; refine AL.det (AOp.str_at (by kernel_rfl) rfl rfl (by omega) (by have h0 := of_decide_eq_true (by assumption); omega)) rfl rfl rfl ?_) | refine AL.guard_skip rfl rfl rfl rfl rfl ?_ | refine AL.guard_undef rfl rfl rfl rfl ?_ | (refine AL.guard_split rfl rfl rfl (fun hb => ?_) (fun hb => ?_) <;> first | (refine AL.guard_do rfl rfl rfl rfl ?_; refine AL.det (AOp.str_at (by kernel_rfl) rfl rfl (by omega) (by have h0 := of_decide_eq_true (by assumption); omega)) rfl rfl rfl ?_) | refine AL.guard_skip rfl rfl rfl rfl rfl ?_)) <;> (first | (refine AL.guard_do rfl rfl rfl rfl ?_; (first | refine AL.det (AOp.call rfl rfl (shape_letter _)) rfl rfl rfl ?_ | refine AL.det (AOp.call rfl rfl (shape_digit _)) rfl rfl rfl ?_)) | refine AL.guard_skip rfl rfl rfl rfl rfl ?_ | refine AL.guard_undef rfl rfl rfl rfl ?_ | (refine AL.guard_split rfl rfl rfl (fun hb => ?_) (fun hb => ?_) <;> first | (refine AL.guard_do rfl rfl rfl rfl ?_; (first | refine AL.det (AOp.call rfl rfl (shape_letter _)) rfl rfl rfl ?_ | refine AL.det (AOp.call rfl rfl (shape_digit _)) rfl rfl rfl ?_)) | refine AL.guard_skip rfl rfl rfl rfl rfl ?_)) <;> (first | (refine AL.guard_do rfl rfl rfl rfl ?_; refine AL.ev rfl rfl rfl rfl ?_) | refine AL.guard_skip rfl rfl rfl rfl rfl ?_ | refine AL.guard_undef rfl rfl rfl rfl ?_ | (refine AL.guard_split rfl rfl rfl (fun hb => ?_) (fun hb => ?_) <;> first | (refine AL.guard_do rfl rfl rfl rfl ?_; refine AL.ev rfl rfl rfl rfl ?_) | refine AL.guard_skip rfl rfl rfl rfl rfl ?_)) <;> refine AL.ev rfl rfl rfl rfl ?_ <;> refine AL.ev rfl rfl rfl rfl ?_ <;> (first | (refine AL.guard_do rfl rfl rfl rfl ?_; refine AL.ev rfl rfl rfl rfl ?_) | refine AL.guard_skip rfl rfl rfl rfl rfl ?_ | refine AL.guard_undef rfl rfl rfl rfl ?_ | (refine AL.guard_split rfl rfl rfl (fun hb => ?_) (fun hb => ?_) <;> first | (refine AL.guard_do rfl rfl rfl rfl ?_; refine AL.ev rfl rfl rfl rfl ?_) | refine AL.guard_skip rfl rfl rfl rfl rfl ?_)) <;> (first | (refine AL.guard_do rfl rfl rfl rfl ?_; (first | refine AL.det (AOp.call rfl rfl (shape_letter _)) rfl rfl rfl ?_ | refine AL.det (AOp.call rfl rfl (shape_digit _)) rfl rfl rfl ?_)) | refine AL.guard_skip rfl rfl rfl rfl rfl ?_ | refine AL.guard_undef rfl rfl rfl rfl ?_ | (refine AL.guard_split rfl rfl rfl (fun hb => ?_) (fun hb => ?_) <;> first | (refine AL.guard_do rfl rfl rfl rfl ?_; (first | refine AL.det (AOp.call rfl rfl (shape_letter _)) rfl rfl rfl ?_ | refine AL.det (AOp.call rfl rfl (shape_digit _)) rfl rfl rfl ?_)) | refine AL.guard_skip rfl rfl rfl rfl rfl ?_)) <;> refine AL.ev rfl rfl rfl rfl ?_ <;> refine AL.nil ?_)
    | (refine AW.region_at 2 ?_ <;> refine AL.ev rfl rfl rfl rfl ?_ <;> refine AL.nil ?_)
    | (refine AW.region_at 3 ?_ <;> refine AL.ev rfl rfl rfl rfl ?_ <;> refine AL.det (AOp.len rfl rfl (by kernel_rfl)) rfl rfl rfl ?_ <;> refine AL.ev rfl rfl rfl rfl ?_ <;> refine AL.nil ?_)
    | (refine AW.region_at 4 ?_ <;> (first | refine AL.ev rfl rfl rfl rfl ?_ | refine AL.det (AOp.add rfl rfl (by omega)) rfl rfl rfl ?_ | refine AL.det (AOp.sub rfl rfl (by omega)) rfl rfl rfl ?_ | refine AL.det (AOp.bool_eq (by kernel_rfl) rfl rfl) rfl rfl rfl ?_ | refine AL.det (AOp.bool_ne (by kernel_rfl) rfl rfl) rfl rfl rfl ?_) <;> refine AL.nil ?_)
    | (refine AW.region_at 5 ?_ <;> refine AL.ev rfl rfl rfl rfl ?_ <;> refine AL.ev rfl rfl rfl rfl ?_ <;> refine AL.nil ?_)
    | (refine AW.region_at 6 ?_ <;> refine AL.ev rfl rfl rfl rfl ?_ <;> refine AL.ev rfl rfl rfl rfl ?_ <;> refine AL.det (AOp.str_at (by kernel_rfl) rfl rfl (by omega) (by have h0 := of_decide_eq_true (by assumption); omega)) rfl rfl rfl ?_ <;> (first | refine AL.det (AOp.call rfl rfl (shape_letter _)) rfl rfl rfl ?_ | refine AL.det (AOp.call rfl rfl (shape_digit _)) rfl rfl rfl ?_) <;> refine AL.ev rfl rfl rfl rfl ?_ <;> refine AL.ev rfl rfl rfl rfl ?_ <;> (first | (refine AL.guard_do rfl rfl rfl rfl ?_; refine AL.ev rfl rfl rfl rfl ?_) | refine AL.guard_skip rfl rfl rfl rfl rfl ?_ | refine AL.guard_undef rfl rfl rfl rfl ?_ | (refine AL.guard_split rfl rfl rfl (fun hb => ?_) (fun hb => ?_) <;> first | (refine AL.guard_do rfl rfl rfl rfl ?_; refine AL.ev rfl rfl rfl rfl ?_) | refine AL.guard_skip rfl rfl rfl rfl rfl ?_)) <;> (first | (refine AL.guard_do rfl rfl rfl rfl ?_; refine AL.ev rfl rfl rfl rfl ?_) | refine AL.guard_skip rfl rfl rfl rfl rfl ?_ | refine AL.guard_undef rfl rfl rfl rfl ?_ | (refine AL.guard_split rfl rfl rfl (fun hb => ?_) (fun hb => ?_) <;> first | (refine AL.guard_do rfl rfl rfl rfl ?_; refine AL.ev rfl rfl rfl rfl ?_) | refine AL.guard_skip rfl rfl rfl rfl rfl ?_)) <;> (first | (refine AL.guard_do rfl rfl rfl rfl ?_; refine AL.det (AOp.str_at (by kernel_rfl) rfl rfl (by omega) (by have h0 := of_decide_eq_true (by assumption); omega)) rfl rfl rfl ?_) | refine AL.guard_skip rfl rfl rfl rfl rfl ?_ | refine AL.guard_undef rfl rfl rfl rfl ?_ | (refine AL.guard_split rfl rfl rfl (fun hb => ?_) (fun hb => ?_) <;> first | (refine AL.guard_do rfl rfl rfl rfl ?_; refine AL.det (AOp.str_at (by kernel_rfl) rfl rfl (by omega) (by have h0 := of_decide_eq_true (by assumption); omega)) rfl rfl rfl ?_) | refine AL.guard_skip rfl rfl rfl rfl rfl ?_)) <;> (first | (refine AL.guard_do rfl rfl rfl rfl ?_; (first | refine AL.det (AOp.call rfl rfl (shape_letter _)) rfl rfl rfl ?_ | refine AL.det (AOp.call rfl rfl (shape_digit _)) rfl rfl rfl ?_)) | refine AL.guard_skip rfl rfl rfl rfl rfl ?_ | refine AL.guard_undef rfl rfl rfl rfl ?_ | (refine AL.guard_split rfl rfl rfl (fun hb => ?_) (fun hb => ?_) <;> first | (refine AL.guard_do rfl rfl rfl rfl ?_; (first | refine AL.det (AOp.call rfl rfl (shape_letter _)) rfl rfl rfl ?_ | refine AL.det (AOp.call rfl rfl (shape_digit _)) rfl rfl rfl ?_)) | refine AL.guard_skip rfl rfl rfl rfl rfl ?_)) <;> (first | (refine AL.guard_do rfl rfl rfl rfl ?_; refine AL.ev rfl rfl rfl rfl ?_) | refine AL.guard_skip rfl rfl rfl rfl rfl ?_ | refine AL.guard_undef rfl rfl rfl rfl ?_ | (refine AL.guard_split rfl rfl rfl (fun hb => ?_) (fun hb => ?_) <;> first | (refine AL.guard_do rfl rfl rfl rfl ?_; refine AL.ev rfl rfl rfl rfl ?_) | refine AL.guard_skip rfl rfl rfl rfl rfl ?_)) <;> refine AL.ev rfl rfl rfl rfl ?_ <;> refine AL.nil ?_)
    | (refine AW.region_at 7 ?_ <;> refine AL.ev rfl rfl rfl rfl ?_ <;> refine AL.nil ?_)
    | (refine AW.region_at 8 ?_ <;> (first | refine AL.ev rfl rfl rfl rfl ?_ | refine AL.det (AOp.add rfl rfl (by omega)) rfl rfl rfl ?_ | refine AL.det (AOp.sub rfl rfl (by omega)) rfl rfl rfl ?_ | refine AL.det (AOp.bool_eq (by kernel_rfl) rfl rfl) rfl rfl rfl ?_ | refine AL.det (AOp.bool_ne (by kernel_rfl) rfl rfl) rfl rfl rfl ?_) <;> refine AL.ev rfl rfl rfl rfl ?_ <;> refine AL.nil ?_)
    | (refine AW.region_at 9 ?_ <;> refine AL.ev rfl rfl rfl rfl ?_ <;> refine AL.nil ?_)
    | refine AW.cond_true rfl ?_
    | refine AW.cond_false rfl ?_
    | refine AW.block ?_
    | refine AW.endblk ?_
    | refine AW.skip ?_
    | refine AW.exit rfl ?_
    | refine AW.label ?_
    | refine AW.cond rfl (fun hb => ?_) (fun hb => ?_))
  · rename_i g1 g2
    have hk' : k < s.size := by have := of_decide_eq_true g1; omega
    exact AW.retv rfl ⟨by rw [nameB_false hk' (by simpa using g2) (by simpa using hb)]; rfl, rfl⟩
  · rename_i g1 g2
    have hk' : k < s.size := by have := of_decide_eq_true g1; omega
    refine AW.again_keep (s.size - (k + 1)) [0, 22, 23] (by omega) ⟨k + 1, hk', rfl, rfl, rfl, fun j hj => ?_⟩
    rcases Nat.lt_or_ge j k with h | h
    · exact hp j h
    · obtain rfl : j = k := by omega
      have : digitB (byteAt s j) = true := by simpa using hb
      simp [this]
  · rename_i g1
    have hk' : k < s.size := by have := of_decide_eq_true g1; omega
    refine AW.again_keep (s.size - (k + 1)) [0, 22, 23] (by omega) ⟨k + 1, hk', rfl, rfl, rfl, fun j hj => ?_⟩
    rcases Nat.lt_or_ge j k with h | h
    · exact hp j h
    · obtain rfl : j = k := by omega
      have : letterB (byteAt s j) = true := by simpa using hb
      simp [this]
  · have hk' : k = s.size := by have := of_decide_eq_false hb; omega
    refine AW.retv rfl ⟨?_, rfl⟩
    have : ((List.range s.size).all fun i => letterB (byteAt s i) || digitB (byteAt s i)) = true := by
      rw [List.all_eq_true]
      intro j hj
      exact hp j (by rw [hk']; exact List.mem_range.1 hj)
    simp [nameB, k1, k2, k3, k4, this, ofConst]
end Go.Proofs.Ytdedkpfbfklgbaa
