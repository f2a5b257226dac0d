/- Contracts: Time. -/
import Derived.Test.YtdedkpfbfklgbaaC39
import Derived.Test.YtdedkpfbfklgbaaC34
import Derived.Test.YtdedkpfbfklgbaaC32
namespace Go.Proofs.Ytdedkpfbfklgbaa
open Go.RowKit Go.SX
set_option maxRecDepth 100000
set_option maxHeartbeats 4000000
set_option linter.unusedVariables false
set_option linter.unusedSimpArgs false

theorem SFit.nok {F R : Nat} {sig : ByteArray → Option Nat} {s : GStmt} (h : SFit F R sig s) : NOk s := by
  induction h with
  | mk h hb he ihb ihe => exact .mk h.n ihb ihe
theorem code_RunC (c : GCode) (s : GStr) (G : List Bool) (fuel : Int) (hc : c.Ok) (hs : s.Ok) (hG : G.length ≤ 4611686018427387904) : Tri Try.prog 10 [c.av, s.av, bools G, .int .i64 fuel] [] (RunPost c s G fuel) :=
  code_Run c s G fuel hc hs hG fun h => chk_ok h
def untilB (l : List GStmt) : Bool := hasL (fun s => decide (s.Kind = 10)) l
/-- What Time returns. -/
def timeR (c : GCode) : List Int × Int :=
  if (checkedP c).bad = true then ([], 1) else if untilB c.Body = true then ([], 6) else if (timeL c.Body []).length > 61 ∨ ∃ x ∈ timeL c.Body [], x > 1099511627776 then ([], 5) else (timeL c.Body [], 0)
theorem Time1 (s : GStmt) : Tri Try.prog 16 [s.st] [] (D (.bool (decide (s.Kind = 10))) []) := by
  refine Tri.enter 6 Try.func16 rfl rfl rfl rfl fun Fr w0 => ?_
  repeat' (first
    | refine AW.seq ?_
    | (refine AW.region_at 0 ?_ <;> refine AL.det (AOp.box_ro rfl rfl) rfl rfl rfl ?_ <;> refine AL.ev rfl rfl rfl rfl ?_ <;> refine AL.nil ?_)
    | (refine AW.region_at 1 ?_ <;> (first | refine AL.det (AOp.field_at rfl rfl (by kernel_rfl) rfl) rfl rfl rfl ?_ | refine AL.det (AOp.field_ref (off := 0) rfl (by kernel_rfl)) rfl rfl rfl ?_) <;> refine AL.det (AOp.load_at rfl rfl (by kernel_rfl)) rfl rfl rfl ?_ <;> (first | refine AL.ev rfl rfl rfl rfl ?_ | refine AL.det (AOp.add rfl rfl (by omega)) rfl rfl rfl ?_ | refine AL.det (AOp.sub rfl rfl (by omega)) rfl rfl rfl ?_ | refine AL.det (AOp.bool_eq (by kernel_rfl) rfl rfl) rfl rfl rfl ?_ | refine AL.det (AOp.bool_ne (by kernel_rfl) rfl rfl) rfl rfl rfl ?_) <;> refine AL.ev rfl rfl rfl rfl ?_ <;> refine AL.nil ?_)
    | refine AW.cond_true rfl ?_
    | refine AW.cond_false rfl ?_
    | refine AW.block ?_
    | refine AW.endblk ?_
    | refine AW.skip ?_
    | refine AW.exit rfl ?_
    | refine AW.label ?_
    | refine AW.cond rfl (fun hb => ?_) (fun hb => ?_))
  exact AW.retv rfl ⟨by rw [ieq], rfl⟩
theorem Time2 (x : Int) : Tri Try.prog 19 [iav x] [] (D (.bool (decide (x > 1099511627776))) []) := by
  refine Tri.enter 5 Try.func19 rfl rfl rfl rfl fun Fr w0 => ?_
  repeat' (first
    | refine AW.seq ?_
    | (refine AW.region_at 0 ?_ <;> refine AL.ev rfl rfl rfl rfl ?_ <;> refine AL.nil ?_)
    | (refine AW.region_at 1 ?_ <;> refine AL.ev rfl rfl rfl rfl ?_ <;> (first | refine AL.ev rfl rfl rfl rfl ?_ | refine AL.det (AOp.add rfl rfl (by omega)) rfl rfl rfl ?_ | refine AL.det (AOp.sub rfl rfl (by omega)) rfl rfl rfl ?_ | refine AL.det (AOp.bool_eq (by kernel_rfl) rfl rfl) rfl rfl rfl ?_ | refine AL.det (AOp.bool_ne (by kernel_rfl) rfl rfl) rfl rfl rfl ?_) <;> refine AL.ev rfl rfl rfl rfl ?_ <;> refine AL.nil ?_)
    | refine AW.cond_true rfl ?_
    | refine AW.cond_false rfl ?_
    | refine AW.block ?_
    | refine AW.endblk ?_
    | refine AW.skip ?_
    | refine AW.exit rfl ?_
    | refine AW.label ?_
    | refine AW.cond rfl (fun hb => ?_) (fun hb => ?_))
  exact AW.retv rfl ⟨rfl, rfl⟩
theorem code_Time (c : GCode) (hc : c.Ok) (hcnt : cntL c.Body ≤ 50000) : Tri Try.prog 8 [c.av] [] (D (.tup [ints (timeR c).1, .int .i64 (timeR c).2]) []) := by
  have hV := code_Valid c hc
  obtain ⟨_, _, _, hcb1, hcb2⟩ := hc
  have hK := contains_n (cntL c.Body) c.Body 16 [] (fun s => decide (s.Kind = 10)) (Nat.le_refl _) (by omega) fun s => Time1 s
  by_cases hb : (checkedP c).bad = true
  · rw [timeR, if_pos hb]
    rw [hb] at hV
    refine Tri.enter 22 Try.func8 rfl rfl rfl rfl fun Fr w0 => ?_
    repeat' (first
      | refine AW.seq ?_
      | (refine AW.region_at 0 ?_ <;> refine AL.det (AOp.box_ro rfl rfl) rfl rfl rfl ?_ <;> refine AL.ev rfl rfl rfl rfl ?_ <;> refine AL.ev rfl rfl rfl rfl ?_ <;> refine AL.nil ?_)
      | (refine AW.region_at 1 ?_ <;> refine AL.det (AOp.load_at rfl rfl (by kernel_rfl)) rfl rfl rfl ?_ <;> refine AL.det (AOp.call rfl rfl hV) rfl rfl rfl ?_ <;> refine AL.ev rfl rfl rfl rfl ?_ <;> refine AL.nil ?_)
      | (refine AW.region_at 2 ?_ <;> refine AL.ev rfl rfl rfl rfl ?_ <;> refine AL.ev rfl rfl rfl rfl ?_ <;> refine AL.nil ?_)
      | refine AW.cond_true rfl ?_
      | refine AW.cond_false rfl ?_
      | refine AW.block ?_
      | refine AW.endblk ?_
      | refine AW.skip ?_
      | refine AW.exit rfl ?_
      | refine AW.label ?_
      | refine AW.cond rfl (fun hb => ?_) (fun hb => ?_))
    all_goals first
      | exact AW.retv rfl ⟨rfl, rfl⟩
      | (exfalso; simp at *; done)
  · have hb' : (checkedP c).bad = false := by simpa using hb
    have hno : ∀ x ∈ c.Body, NOk x := fun x hx => ((chk_ok hb').body x hx).nok
    have hT := code_time (cntL c.Body) c.Body (Nat.le_refl _) hcnt (by omega) hcb2 hno
    have hf := timeL_facts (cntL c.Body) c.Body (Nat.le_refl _) hno [] nil_ok
    simp only [List.length_nil] at hf
    have hC := ContainsFunc_poly (timeL c.Body []) (by omega) 19 [] (fun x => decide (x > 1099511627776)) fun x _ => Time2 x
    rw [timeR, if_neg hb]
    rw [hb'] at hV
    have hlen : (((timeL c.Body []).map iav).length : Int) = (timeL c.Body []).length := by simp
    unfold untilB
    by_cases hu : hasL (fun s => decide (s.Kind = 10)) c.Body = true
    · rw [if_pos hu]
      rw [hu] at hK
      refine Tri.enter 22 Try.func8 rfl rfl rfl rfl fun Fr w0 => ?_
      repeat' (first
        | refine AW.seq ?_
        | (refine AW.region_at 0 ?_ <;> refine AL.det (AOp.box_ro rfl rfl) rfl rfl rfl ?_ <;> refine AL.ev rfl rfl rfl rfl ?_ <;> refine AL.ev rfl rfl rfl rfl ?_ <;> refine AL.nil ?_)
        | (refine AW.region_at 1 ?_ <;> refine AL.det (AOp.load_at rfl rfl (by kernel_rfl)) rfl rfl rfl ?_ <;> (first | refine AL.det (AOp.call rfl rfl hV) rfl rfl rfl ?_ | refine AL.det (AOp.call rfl rfl hK) rfl rfl rfl ?_) <;> refine AL.ev rfl rfl rfl rfl ?_ <;> refine AL.nil ?_)
        | (refine AW.region_at 3 ?_ <;> (first | refine AL.det (AOp.field_at rfl rfl (by kernel_rfl) rfl) rfl rfl rfl ?_ | refine AL.det (AOp.field_ref (off := 3) rfl (by kernel_rfl)) rfl rfl rfl ?_) <;> refine AL.det (AOp.load_at rfl rfl (by kernel_rfl)) rfl rfl rfl ?_ <;> (first | refine AL.det (AOp.call rfl rfl hV) rfl rfl rfl ?_ | refine AL.det (AOp.call rfl rfl hK) rfl rfl rfl ?_) <;> refine AL.nil ?_)
        | (refine AW.region_at 4 ?_ <;> refine AL.ev rfl rfl rfl rfl ?_ <;> refine AL.ev rfl rfl rfl rfl ?_ <;> refine AL.nil ?_)
        | refine AW.cond_true rfl ?_
        | refine AW.cond_false rfl ?_
        | refine AW.block ?_
        | refine AW.endblk ?_
        | refine AW.skip ?_
        | refine AW.exit rfl ?_
        | refine AW.label ?_
        | refine AW.cond rfl (fun hb => ?_) (fun hb => ?_))
      all_goals first
        | exact AW.retv rfl ⟨rfl, rfl⟩
        | (exfalso; simp at *; done)
    · rw [if_neg hu]
      rw [show hasL (fun s => decide (s.Kind = 10)) c.Body = false by simpa using hu] at hK
      refine Tri.enter 22 Try.func8 rfl rfl rfl rfl fun Fr w0 => ?_
      repeat' (first
        | refine AW.seq ?_
        | (refine AW.region_at 0 ?_ <;> refine AL.det (AOp.box_ro rfl rfl) rfl rfl rfl ?_ <;> refine AL.ev rfl rfl rfl rfl ?_ <;> refine AL.ev rfl rfl rfl rfl ?_ <;> refine AL.nil ?_)
        | (refine AW.region_at 1 ?_ <;> refine AL.det (AOp.load_at rfl rfl (by kernel_rfl)) rfl rfl rfl ?_ <;> (first | refine AL.det (AOp.call rfl rfl hV) rfl rfl rfl ?_ | refine AL.det (AOp.call rfl rfl hK) rfl rfl rfl ?_ | refine AL.det (AOp.call rfl rfl hT) rfl rfl rfl ?_ | refine AL.det (AOp.call rfl rfl hC) rfl rfl rfl ?_) <;> refine AL.ev rfl rfl rfl rfl ?_ <;> refine AL.nil ?_)
        | (refine AW.region_at 3 ?_ <;> (first | refine AL.det (AOp.field_at rfl rfl (by kernel_rfl) rfl) rfl rfl rfl ?_ | refine AL.det (AOp.field_ref (off := 3) rfl (by kernel_rfl)) rfl rfl rfl ?_) <;> refine AL.det (AOp.load_at rfl rfl (by kernel_rfl)) rfl rfl rfl ?_ <;> (first | refine AL.det (AOp.call rfl rfl hV) rfl rfl rfl ?_ | refine AL.det (AOp.call rfl rfl hK) rfl rfl rfl ?_ | refine AL.det (AOp.call rfl rfl hT) rfl rfl rfl ?_ | refine AL.det (AOp.call rfl rfl hC) rfl rfl rfl ?_) <;> refine AL.nil ?_)
        | (refine AW.region_at 5 ?_ <;> (first | refine AL.det (AOp.field_at rfl rfl (by kernel_rfl) rfl) rfl rfl rfl ?_ | refine AL.det (AOp.field_ref (off := 3) rfl (by kernel_rfl)) rfl rfl rfl ?_) <;> refine AL.det (AOp.load_at rfl rfl (by kernel_rfl)) rfl rfl rfl ?_ <;> (first | refine AL.det (AOp.call rfl rfl hV) rfl rfl rfl ?_ | refine AL.det (AOp.call rfl rfl hK) rfl rfl rfl ?_ | refine AL.det (AOp.call rfl rfl hT) rfl rfl rfl ?_ | refine AL.det (AOp.call rfl rfl hC) rfl rfl rfl ?_) <;> refine AL.ev rfl rfl rfl rfl ?_ <;> refine AL.nil ?_)
        | (refine AW.region_at 6 ?_ <;> refine AL.ev rfl rfl rfl rfl ?_ <;> refine AL.det (AOp.len rfl rfl (by kernel_rfl)) rfl rfl rfl ?_ <;> (first | refine AL.ev rfl rfl rfl rfl ?_ | refine AL.det (AOp.add rfl rfl (by omega)) rfl rfl rfl ?_ | refine AL.det (AOp.sub rfl rfl (by omega)) rfl rfl rfl ?_ | refine AL.det (AOp.bool_eq (by kernel_rfl) rfl rfl) rfl rfl rfl ?_ | refine AL.det (AOp.bool_ne (by kernel_rfl) rfl rfl) rfl rfl rfl ?_) <;> refine AL.ev rfl rfl rfl rfl ?_ <;> (first | (refine AL.guard_do rfl rfl rfl rfl ?_; refine AL.ev rfl rfl rfl rfl ?_) | refine AL.guard_skip rfl rfl rfl rfl rfl ?_ | refine AL.guard_undef rfl rfl rfl rfl ?_ | (refine AL.guard_split rfl rfl rfl (fun hb => ?_) (fun hb => ?_) <;> first | (refine AL.guard_do rfl rfl rfl rfl ?_; refine AL.ev rfl rfl rfl rfl ?_) | refine AL.guard_skip rfl rfl rfl rfl rfl ?_)) <;> (first | (refine AL.guard_do rfl rfl rfl rfl ?_; (first | refine AL.det (AOp.call rfl rfl hV) rfl rfl rfl ?_ | refine AL.det (AOp.call rfl rfl hK) rfl rfl rfl ?_ | refine AL.det (AOp.call rfl rfl hT) rfl rfl rfl ?_ | refine AL.det (AOp.call rfl rfl hC) rfl rfl rfl ?_)) | refine AL.guard_skip rfl rfl rfl rfl rfl ?_ | refine AL.guard_undef rfl rfl rfl rfl ?_ | (refine AL.guard_split rfl rfl rfl (fun hb => ?_) (fun hb => ?_) <;> first | (refine AL.guard_do rfl rfl rfl rfl ?_; (first | refine AL.det (AOp.call rfl rfl hV) rfl rfl rfl ?_ | refine AL.det (AOp.call rfl rfl hK) rfl rfl rfl ?_ | refine AL.det (AOp.call rfl rfl hT) rfl rfl rfl ?_ | refine AL.det (AOp.call rfl rfl hC) rfl rfl rfl ?_)) | refine AL.guard_skip rfl rfl rfl rfl rfl ?_)) <;> refine AL.ev rfl rfl rfl rfl ?_ <;> refine AL.nil ?_)
        | (refine AW.region_at 7 ?_ <;> refine AL.ev rfl rfl rfl rfl ?_ <;> refine AL.ev rfl rfl rfl rfl ?_ <;> refine AL.nil ?_)
        | (refine AW.region_at 8 ?_ <;> refine AL.ev rfl rfl rfl rfl ?_ <;> refine AL.ev rfl rfl rfl rfl ?_ <;> refine AL.ev rfl rfl rfl rfl ?_ <;> refine AL.nil ?_)
        | refine AW.cond_true rfl ?_
        | refine AW.cond_false rfl ?_
        | refine AW.block ?_
        | refine AW.endblk ?_
        | refine AW.skip ?_
        | refine AW.exit rfl ?_
        | refine AW.label ?_
        | refine AW.cond rfl (fun hb => ?_) (fun hb => ?_))
      all_goals first
        | (exfalso; simp at *; done)
        | skip
      all_goals first
        | (refine AW.retv rfl ⟨?_, rfl⟩; rw [if_pos (Or.inl (by simp only [decide_eq_true_eq] at hb; omega))]; rfl)
        | (refine AW.retv rfl ⟨?_, rfl⟩; rw [if_pos (Or.inr (by simpa using hb))]; rfl)
        | (rename_i hb2; refine AW.retv rfl ⟨?_, rfl⟩; rw [if_neg (by (rintro (h | ⟨x, hx, h⟩); (simp only [decide_eq_false_iff_not] at hb2; omega); (simp at hb; have := hb x hx; omega)))]; rfl)
end Go.Proofs.Ytdedkpfbfklgbaa
