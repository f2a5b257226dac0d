/- Contracts: Few of structures: it answers. -/
import Derived.Test.YtdedkpfbfklgbaaC9
import Derived.Test.YtdedkpfbfklgbaaS2
namespace Go.Proofs.Ytdedkpfbfklgbaa
open Go.RowKit Go.SX
set_option maxRecDepth 100000
set_option maxHeartbeats 4000000
set_option linter.unusedVariables false
set_option linter.unusedSimpArgs false

theorem law_FewS (s : GStr) (hs : s.Ok) : Tri Try.prog 6 [.sl [s.av]] [] (fun x h => ∃ b, x = .ret (.bool b) ∧ h = []) := by
  obtain ⟨_, hs2, hs3⟩ := hs
  have h0 : ([s.av] : List AV)[((0 : Nat) : Int).toNat]? = some (.st [.int .i64 s.Size, .sl (s.Rels.map GRel.av)]) := rfl
  have h0' : ([s.av] : List AV)[(0 : Int).toNat]? = some (.st [.int .i64 s.Size, .sl (s.Rels.map GRel.av)]) := rfl
  refine Tri.enter 89 Try.func6 rfl rfl rfl rfl fun Fr w0 => ?_
  repeat' (first
    | refine AW.seq ?_
    | (refine AW.region_at 0 ?_ <;> refine AL.ev rfl rfl rfl rfl ?_ <;> refine AL.nil ?_)
    | (refine AW.region_at 1 ?_ <;> refine AL.ev rfl rfl rfl rfl ?_ <;> refine AL.ev rfl rfl rfl rfl ?_ <;> refine AL.nil ?_)
    | (refine AW.region_at 2 ?_ <;> refine AL.ev rfl rfl rfl rfl ?_ <;> refine AL.nil ?_)
    | refine AW.cond_true rfl ?_
    | refine AW.cond_false rfl ?_
    | refine AW.block ?_
    | refine AW.endblk ?_
    | refine AW.skip ?_
    | refine AW.exit rfl ?_
    | refine AW.label ?_
    | refine AW.cond rfl (fun hb => ?_) (fun hb => ?_))
  refine AW.prune [0, 3, 4, 5] (AW.loop (fun m af h => ∃ (i : Nat) (T e : Int), i ≤ 1 ∧ m = 1 - i ∧ af = [(0, .sl [s.av]), (3, .int .i64 T), (4, .int .i64 e), (5, .int .i64 i)] ∧ h = [] ∧ 0 ≤ T ∧ T ≤ 1500 ∧ 0 ≤ e ∧ e ≤ T * 17592186044416 ∧ (i = 0 → T = 0)) 1 ⟨0, 0, 0, by omega, rfl, rfl, rfl, by omega, by omega, by omega, by omega, fun _ => rfl⟩ ?_)
  rintro m af h ⟨i, T, e, hi, rfl, rfl, rfl, hT0, hT1, he0, he1, hi0⟩
  refine AW.seq ?_
  by_cases hlt : i < 1
  · obtain rfl : i = 0 := by omega
    repeat' (first
      | refine AW.seq ?_
      | (refine AW.region_at 3 ?_ <;> refine AL.ev rfl rfl rfl rfl ?_ <;> refine AL.ev rfl rfl rfl rfl ?_ <;> refine AL.det (AOp.len rfl rfl (by kernel_rfl)) rfl rfl rfl ?_ <;> (first | refine AL.ev rfl rfl rfl rfl ?_ | refine AL.det (AOp.add rfl rfl (by omega)) rfl rfl rfl ?_ | refine AL.det (AOp.sub rfl rfl (by omega)) rfl rfl rfl ?_ | refine AL.det (AOp.bool_eq (by kernel_rfl) rfl rfl) rfl rfl rfl ?_ | refine AL.det (AOp.bool_ne (by kernel_rfl) rfl rfl) rfl rfl rfl ?_) <;> refine AL.nil ?_)
      | (refine AW.region_at 5 ?_ <;> refine AL.ev rfl rfl rfl rfl ?_ <;> refine AL.ev rfl rfl rfl rfl ?_ <;> (first | refine AL.det (AOp.index_sl rfl rfl (by omega) h0 (by kernel_rfl) rfl) rfl rfl rfl ?_ | refine AL.det (AOp.index_sl rfl rfl (by omega) h0' (by kernel_rfl) rfl) rfl rfl rfl ?_) <;> (first | refine AL.det (AOp.field_at rfl rfl (by kernel_rfl) rfl) rfl rfl rfl ?_ | refine AL.det (AOp.field_ref (off := 1) rfl (by kernel_rfl)) rfl rfl rfl ?_) <;> refine AL.det (AOp.load_at rfl rfl (by kernel_rfl)) rfl rfl rfl ?_ <;> refine AL.det (AOp.len rfl rfl (by kernel_rfl)) rfl rfl rfl ?_ <;> (first | refine AL.ev rfl rfl rfl rfl ?_ | refine AL.det (AOp.add rfl rfl (by omega)) rfl rfl rfl ?_ | refine AL.det (AOp.sub rfl rfl (by omega)) rfl rfl rfl ?_ | refine AL.det (AOp.bool_eq (by kernel_rfl) rfl rfl) rfl rfl rfl ?_ | refine AL.det (AOp.bool_ne (by kernel_rfl) rfl rfl) rfl rfl rfl ?_) <;> refine AL.nil ?_)
      | (refine AW.region_at 6 ?_ <;> refine AL.ev rfl rfl rfl rfl ?_ <;> refine AL.nil ?_)
      | (refine AW.region_at 7 ?_ <;> refine AL.ev rfl rfl rfl rfl ?_ <;> refine AL.nil ?_)
      | refine AW.cond_true rfl ?_
      | refine AW.cond_false rfl ?_
      | refine AW.block ?_
      | refine AW.endblk ?_
      | refine AW.skip ?_
      | refine AW.exit rfl ?_
      | refine AW.label ?_
      | refine AW.cond rfl (fun hb => ?_) (fun hb => ?_))
    all_goals try (exfalso; simp only [decide_eq_true_eq, decide_eq_false_iff_not] at *; simp at *; done)
    · exact AW.retv rfl ⟨_, rfl, rfl⟩
    have hR : s.Rels.length ≤ 12 := by simp only [decide_eq_false_iff_not, List.length_map] at hb; omega
    refine AW.prune [0, 3, 4, 5, 6] (AW.loop (fun m af h => ∃ (k : Nat) (T e : Int), k ≤ s.Rels.length ∧ m = s.Rels.length - k ∧ af = [(0, .sl [s.av]), (3, .int .i64 T), (4, .int .i64 e), (5, .int .i64 0), (6, .int .i64 k)] ∧ h = [] ∧ 0 ≤ T ∧ T ≤ 1500 ∧ 0 ≤ e ∧ e ≤ T * 17592186044416) s.Rels.length ⟨0, T, e, Nat.zero_le _, rfl, rfl, rfl, hT0, hT1, he0, he1⟩ ?_)
    rintro m af h ⟨k, T, e, hk, rfl, rfl, rfl, hT0, hT1, he0, he1⟩
    refine AW.seq ?_
    by_cases hlt2 : k < s.Rels.length
    · obtain ⟨r, hr⟩ := get_lt hlt2
      have hr' : (s.Rels.map GRel.av)[((k : Nat) : Int).toNat]? = some (.st [.str r.Name, .int .i64 r.Arity, .sl (r.Tuples.map ints)]) := map_get hr
      obtain ⟨_, _, hr3, hr4⟩ := hs3 r (List.mem_of_getElem? hr)
      have hTl : ((r.Tuples.map ints).length : Int) = r.Tuples.length := by simp
      repeat' (first
        | refine AW.seq ?_
        | (refine AW.region_at 8 ?_ <;> refine AL.ev rfl rfl rfl rfl ?_ <;> refine AL.ev rfl rfl rfl rfl ?_ <;> refine AL.ev rfl rfl rfl rfl ?_ <;> (first | refine AL.det (AOp.index_sl rfl rfl (by omega) h0 (by kernel_rfl) rfl) rfl rfl rfl ?_ | refine AL.det (AOp.index_sl rfl rfl (by omega) h0' (by kernel_rfl) rfl) rfl rfl rfl ?_ | refine AL.det (AOp.index_sl rfl rfl (by omega) hr' (by kernel_rfl) rfl) rfl rfl rfl ?_) <;> (first | refine AL.det (AOp.field_at rfl rfl (by kernel_rfl) rfl) rfl rfl rfl ?_ | refine AL.det (AOp.field_ref (off := 1) rfl (by kernel_rfl)) rfl rfl rfl ?_) <;> refine AL.det (AOp.load_at rfl rfl (by kernel_rfl)) rfl rfl rfl ?_ <;> refine AL.det (AOp.len rfl rfl (by kernel_rfl)) rfl rfl rfl ?_ <;> (first | refine AL.ev rfl rfl rfl rfl ?_ | refine AL.det (AOp.add rfl rfl (by omega)) rfl rfl rfl ?_ | refine AL.det (AOp.sub rfl rfl (by omega)) rfl rfl rfl ?_ | refine AL.det (AOp.bool_eq (by kernel_rfl) rfl rfl) rfl rfl rfl ?_ | refine AL.det (AOp.bool_ne (by kernel_rfl) rfl rfl) rfl rfl rfl ?_) <;> refine AL.nil ?_)
        | (refine AW.region_at 10 ?_ <;> refine AL.ev rfl rfl rfl rfl ?_ <;> refine AL.ev rfl rfl rfl rfl ?_ <;> refine AL.ev rfl rfl rfl rfl ?_ <;> (first | refine AL.det (AOp.index_sl rfl rfl (by omega) h0 (by kernel_rfl) rfl) rfl rfl rfl ?_ | refine AL.det (AOp.index_sl rfl rfl (by omega) h0' (by kernel_rfl) rfl) rfl rfl rfl ?_ | refine AL.det (AOp.index_sl rfl rfl (by omega) hr' (by kernel_rfl) rfl) rfl rfl rfl ?_) <;> (first | refine AL.det (AOp.field_at rfl rfl (by kernel_rfl) rfl) rfl rfl rfl ?_ | refine AL.det (AOp.field_ref (off := 1) rfl (by kernel_rfl)) rfl rfl rfl ?_) <;> refine AL.det (AOp.load_at rfl rfl (by kernel_rfl)) rfl rfl rfl ?_ <;> refine AL.ev rfl rfl rfl rfl ?_ <;> (first | refine AL.det (AOp.index_sl rfl rfl (by omega) h0 (by kernel_rfl) rfl) rfl rfl rfl ?_ | refine AL.det (AOp.index_sl rfl rfl (by omega) h0' (by kernel_rfl) rfl) rfl rfl rfl ?_ | refine AL.det (AOp.index_sl rfl rfl (by omega) hr' (by kernel_rfl) rfl) rfl rfl rfl ?_) <;> (first | refine AL.det (AOp.field_at rfl rfl (by kernel_rfl) rfl) rfl rfl rfl ?_ | refine AL.det (AOp.field_ref (off := 2) rfl (by kernel_rfl)) rfl rfl rfl ?_) <;> refine AL.det (AOp.load_at rfl rfl (by kernel_rfl)) rfl rfl rfl ?_ <;> refine AL.det (AOp.len rfl rfl (by kernel_rfl)) rfl rfl rfl ?_ <;> (first | refine AL.ev rfl rfl rfl rfl ?_ | refine AL.det (AOp.add rfl rfl (by omega)) rfl rfl rfl ?_ | refine AL.det (AOp.sub rfl rfl (by omega)) rfl rfl rfl ?_ | refine AL.det (AOp.bool_eq (by kernel_rfl) rfl rfl) rfl rfl rfl ?_ | refine AL.det (AOp.bool_ne (by kernel_rfl) rfl rfl) rfl rfl rfl ?_) <;> refine AL.ev rfl rfl rfl rfl ?_ <;> refine AL.nil ?_)
        | (refine AW.region_at 11 ?_ <;> refine AL.ev rfl rfl rfl rfl ?_ <;> (first | refine AL.ev rfl rfl rfl rfl ?_ | refine AL.det (AOp.add rfl rfl (by omega)) rfl rfl rfl ?_ | refine AL.det (AOp.sub rfl rfl (by omega)) rfl rfl rfl ?_ | refine AL.det (AOp.bool_eq (by kernel_rfl) rfl rfl) rfl rfl rfl ?_ | refine AL.det (AOp.bool_ne (by kernel_rfl) rfl rfl) rfl rfl rfl ?_) <;> refine AL.ev rfl rfl rfl rfl ?_ <;> (first | (refine AL.guard_do rfl rfl rfl rfl ?_; refine AL.ev rfl rfl rfl rfl ?_) | refine AL.guard_skip rfl rfl rfl rfl rfl ?_ | refine AL.guard_undef rfl rfl rfl rfl ?_ | (refine AL.guard_split rfl rfl rfl (fun hb => ?_) (fun hb => ?_) <;> first | (refine AL.guard_do rfl rfl rfl rfl ?_; refine AL.ev rfl rfl rfl rfl ?_) | refine AL.guard_skip rfl rfl rfl rfl rfl ?_)) <;> (first | (refine AL.guard_do rfl rfl rfl rfl ?_; refine AL.ev rfl rfl rfl rfl ?_) | refine AL.guard_skip rfl rfl rfl rfl rfl ?_ | refine AL.guard_undef rfl rfl rfl rfl ?_ | (refine AL.guard_split rfl rfl rfl (fun hb => ?_) (fun hb => ?_) <;> first | (refine AL.guard_do rfl rfl rfl rfl ?_; refine AL.ev rfl rfl rfl rfl ?_) | refine AL.guard_skip rfl rfl rfl rfl rfl ?_)) <;> (first | (refine AL.guard_do rfl rfl rfl rfl ?_; (first | refine AL.det (AOp.index_sl rfl rfl (by omega) h0 (by kernel_rfl) rfl) rfl rfl rfl ?_ | refine AL.det (AOp.index_sl rfl rfl (by omega) h0' (by kernel_rfl) rfl) rfl rfl rfl ?_ | refine AL.det (AOp.index_sl rfl rfl (by omega) hr' (by kernel_rfl) rfl) rfl rfl rfl ?_)) | refine AL.guard_skip rfl rfl rfl rfl rfl ?_ | refine AL.guard_undef rfl rfl rfl rfl ?_ | (refine AL.guard_split rfl rfl rfl (fun hb => ?_) (fun hb => ?_) <;> first | (refine AL.guard_do rfl rfl rfl rfl ?_; (first | refine AL.det (AOp.index_sl rfl rfl (by omega) h0 (by kernel_rfl) rfl) rfl rfl rfl ?_ | refine AL.det (AOp.index_sl rfl rfl (by omega) h0' (by kernel_rfl) rfl) rfl rfl rfl ?_ | refine AL.det (AOp.index_sl rfl rfl (by omega) hr' (by kernel_rfl) rfl) rfl rfl rfl ?_)) | refine AL.guard_skip rfl rfl rfl rfl rfl ?_)) <;> (first | (refine AL.guard_do rfl rfl rfl rfl ?_; (first | refine AL.det (AOp.field_at rfl rfl (by kernel_rfl) rfl) rfl rfl rfl ?_ | refine AL.det (AOp.field_ref (off := 1) rfl (by kernel_rfl)) rfl rfl rfl ?_)) | refine AL.guard_skip rfl rfl rfl rfl rfl ?_ | refine AL.guard_undef rfl rfl rfl rfl ?_ | (refine AL.guard_split rfl rfl rfl (fun hb => ?_) (fun hb => ?_) <;> first | (refine AL.guard_do rfl rfl rfl rfl ?_; (first | refine AL.det (AOp.field_at rfl rfl (by kernel_rfl) rfl) rfl rfl rfl ?_ | refine AL.det (AOp.field_ref (off := 1) rfl (by kernel_rfl)) rfl rfl rfl ?_)) | refine AL.guard_skip rfl rfl rfl rfl rfl ?_)) <;> (first | (refine AL.guard_do rfl rfl rfl rfl ?_; refine AL.det (AOp.load_at rfl rfl (by kernel_rfl)) rfl rfl rfl ?_) | refine AL.guard_skip rfl rfl rfl rfl rfl ?_ | refine AL.guard_undef rfl rfl rfl rfl ?_ | (refine AL.guard_split rfl rfl rfl (fun hb => ?_) (fun hb => ?_) <;> first | (refine AL.guard_do rfl rfl rfl rfl ?_; refine AL.det (AOp.load_at rfl rfl (by kernel_rfl)) rfl rfl rfl ?_) | refine AL.guard_skip rfl rfl rfl rfl rfl ?_)) <;> (first | (refine AL.guard_do rfl rfl rfl rfl ?_; refine AL.ev rfl rfl rfl rfl ?_) | refine AL.guard_skip rfl rfl rfl rfl rfl ?_ | refine AL.guard_undef rfl rfl rfl rfl ?_ | (refine AL.guard_split rfl rfl rfl (fun hb => ?_) (fun hb => ?_) <;> first | (refine AL.guard_do rfl rfl rfl rfl ?_; refine AL.ev rfl rfl rfl rfl ?_) | refine AL.guard_skip rfl rfl rfl rfl rfl ?_)) <;> (first | (refine AL.guard_do rfl rfl rfl rfl ?_; (first | refine AL.det (AOp.index_sl rfl rfl (by omega) h0 (by kernel_rfl) rfl) rfl rfl rfl ?_ | refine AL.det (AOp.index_sl rfl rfl (by omega) h0' (by kernel_rfl) rfl) rfl rfl rfl ?_ | refine AL.det (AOp.index_sl rfl rfl (by omega) hr' (by kernel_rfl) rfl) rfl rfl rfl ?_)) | refine AL.guard_skip rfl rfl rfl rfl rfl ?_ | refine AL.guard_undef rfl rfl rfl rfl ?_ | (refine AL.guard_split rfl rfl rfl (fun hb => ?_) (fun hb => ?_) <;> first | (refine AL.guard_do rfl rfl rfl rfl ?_; (first | refine AL.det (AOp.index_sl rfl rfl (by omega) h0 (by kernel_rfl) rfl) rfl rfl rfl ?_ | refine AL.det (AOp.index_sl rfl rfl (by omega) h0' (by kernel_rfl) rfl) rfl rfl rfl ?_ | refine AL.det (AOp.index_sl rfl rfl (by omega) hr' (by kernel_rfl) rfl) rfl rfl rfl ?_)) | refine AL.guard_skip rfl rfl rfl rfl rfl ?_)) <;> (first | (refine AL.guard_do rfl rfl rfl rfl ?_; (first | refine AL.det (AOp.field_at rfl rfl (by kernel_rfl) rfl) rfl rfl rfl ?_ | refine AL.det (AOp.field_ref (off := 0) rfl (by kernel_rfl)) rfl rfl rfl ?_)) | refine AL.guard_skip rfl rfl rfl rfl rfl ?_ | refine AL.guard_undef rfl rfl rfl rfl ?_ | (refine AL.guard_split rfl rfl rfl (fun hb => ?_) (fun hb => ?_) <;> first | (refine AL.guard_do rfl rfl rfl rfl ?_; (first | refine AL.det (AOp.field_at rfl rfl (by kernel_rfl) rfl) rfl rfl rfl ?_ | refine AL.det (AOp.field_ref (off := 0) rfl (by kernel_rfl)) rfl rfl rfl ?_)) | refine AL.guard_skip rfl rfl rfl rfl rfl ?_)) <;> (first | (refine AL.guard_do rfl rfl rfl rfl ?_; refine AL.det (AOp.load_at rfl rfl (by kernel_rfl)) rfl rfl rfl ?_) | refine AL.guard_skip rfl rfl rfl rfl rfl ?_ | refine AL.guard_undef rfl rfl rfl rfl ?_ | (refine AL.guard_split rfl rfl rfl (fun hb => ?_) (fun hb => ?_) <;> first | (refine AL.guard_do rfl rfl rfl rfl ?_; refine AL.det (AOp.load_at rfl rfl (by kernel_rfl)) rfl rfl rfl ?_) | refine AL.guard_skip rfl rfl rfl rfl rfl ?_)) <;> (first | (refine AL.guard_do rfl rfl rfl rfl ?_; refine AL.det (AOp.len rfl rfl (by kernel_rfl)) rfl rfl rfl ?_) | refine AL.guard_skip rfl rfl rfl rfl rfl ?_ | refine AL.guard_undef rfl rfl rfl rfl ?_ | (refine AL.guard_split rfl rfl rfl (fun hb => ?_) (fun hb => ?_) <;> first | (refine AL.guard_do rfl rfl rfl rfl ?_; refine AL.det (AOp.len rfl rfl (by kernel_rfl)) rfl rfl rfl ?_) | refine AL.guard_skip rfl rfl rfl rfl rfl ?_)) <;> (first | (refine AL.guard_do rfl rfl rfl rfl ?_; (first | refine AL.ev rfl rfl rfl rfl ?_ | refine AL.det (AOp.add rfl rfl (by omega)) rfl rfl rfl ?_ | refine AL.det (AOp.sub rfl rfl (by omega)) rfl rfl rfl ?_ | refine AL.det (AOp.bool_eq (by kernel_rfl) rfl rfl) rfl rfl rfl ?_ | refine AL.det (AOp.bool_ne (by kernel_rfl) rfl rfl) rfl rfl rfl ?_)) | refine AL.guard_skip rfl rfl rfl rfl rfl ?_ | refine AL.guard_undef rfl rfl rfl rfl ?_ | (refine AL.guard_split rfl rfl rfl (fun hb => ?_) (fun hb => ?_) <;> first | (refine AL.guard_do rfl rfl rfl rfl ?_; (first | refine AL.ev rfl rfl rfl rfl ?_ | refine AL.det (AOp.add rfl rfl (by omega)) rfl rfl rfl ?_ | refine AL.det (AOp.sub rfl rfl (by omega)) rfl rfl rfl ?_ | refine AL.det (AOp.bool_eq (by kernel_rfl) rfl rfl) rfl rfl rfl ?_ | refine AL.det (AOp.bool_ne (by kernel_rfl) rfl rfl) rfl rfl rfl ?_)) | refine AL.guard_skip rfl rfl rfl rfl rfl ?_)) <;> refine AL.ev rfl rfl rfl rfl ?_ <;> refine AL.nil ?_)
        | (refine AW.region_at 12 ?_ <;> refine AL.ev rfl rfl rfl rfl ?_ <;> refine AL.nil ?_)
        | (refine AW.region_at 13 ?_ <;> refine AL.ev rfl rfl rfl rfl ?_ <;> refine AL.nil ?_)
        | refine AW.cond_true rfl ?_
        | refine AW.cond_false rfl ?_
        | refine AW.block ?_
        | refine AW.endblk ?_
        | refine AW.skip ?_
        | refine AW.exit rfl ?_
        | refine AW.label ?_
        | refine AW.cond rfl (fun hb => ?_) (fun hb => ?_))
      all_goals first
        | (exfalso; simp only [decide_eq_true_eq, decide_eq_false_iff_not, List.length_map] at *; omega)
        | exact AW.retv rfl ⟨_, rfl, rfl⟩
        | skip
      have hT2 : T + r.Tuples.length ≤ 1500 := by simp only [decide_eq_true_eq, decide_eq_false_iff_not, List.length_map] at *; omega
      refine AW.prune [0, 3, 4, 5, 6, 7] (AW.loop (fun m af h => ∃ (j : Nat) (e : Int), j ≤ r.Tuples.length ∧ m = r.Tuples.length - j ∧ af = [(0, .sl [s.av]), (3, .int .i64 (T + (r.Tuples.map ints).length)), (4, .int .i64 e), (5, .int .i64 0), (6, .int .i64 k), (7, .int .i64 j)] ∧ h = [] ∧ 0 ≤ e ∧ e ≤ (T + j) * 17592186044416) r.Tuples.length ⟨0, e, Nat.zero_le _, rfl, rfl, rfl, he0, by omega⟩ ?_)
      rintro m af h ⟨j, e, hj, rfl, rfl, rfl, he0, he1⟩
      refine AW.seq ?_
      by_cases hlt3 : j < r.Tuples.length
      · obtain ⟨t, ht⟩ := get_lt hlt3
        have ht' : (r.Tuples.map ints)[((j : Nat) : Int).toNat]? = some (ints t) := map_get ht
        have htl : ((t.map iav).length : Int) = t.length := by simp
        have htb := (hr4 t (List.mem_of_getElem? ht)).1
        repeat' (first
          | refine AW.seq ?_
          | (refine AW.region_at 14 ?_ <;> refine AL.ev rfl rfl rfl rfl ?_ <;> refine AL.ev rfl rfl rfl rfl ?_ <;> refine AL.ev rfl rfl rfl rfl ?_ <;> (first | refine AL.det (AOp.index_sl rfl rfl (by omega) h0 (by kernel_rfl) rfl) rfl rfl rfl ?_ | refine AL.det (AOp.index_sl rfl rfl (by omega) h0' (by kernel_rfl) rfl) rfl rfl rfl ?_ | refine AL.det (AOp.index_sl rfl rfl (by omega) hr' (by kernel_rfl) rfl) rfl rfl rfl ?_ | refine AL.det (AOp.index_sl rfl rfl (by omega) ht' (by kernel_rfl) rfl) rfl rfl rfl ?_) <;> (first | refine AL.det (AOp.field_at rfl rfl (by kernel_rfl) rfl) rfl rfl rfl ?_ | refine AL.det (AOp.field_ref (off := 1) rfl (by kernel_rfl)) rfl rfl rfl ?_) <;> refine AL.det (AOp.load_at rfl rfl (by kernel_rfl)) rfl rfl rfl ?_ <;> refine AL.ev rfl rfl rfl rfl ?_ <;> (first | refine AL.det (AOp.index_sl rfl rfl (by omega) h0 (by kernel_rfl) rfl) rfl rfl rfl ?_ | refine AL.det (AOp.index_sl rfl rfl (by omega) h0' (by kernel_rfl) rfl) rfl rfl rfl ?_ | refine AL.det (AOp.index_sl rfl rfl (by omega) hr' (by kernel_rfl) rfl) rfl rfl rfl ?_ | refine AL.det (AOp.index_sl rfl rfl (by omega) ht' (by kernel_rfl) rfl) rfl rfl rfl ?_) <;> (first | refine AL.det (AOp.field_at rfl rfl (by kernel_rfl) rfl) rfl rfl rfl ?_ | refine AL.det (AOp.field_ref (off := 2) rfl (by kernel_rfl)) rfl rfl rfl ?_) <;> refine AL.det (AOp.load_at rfl rfl (by kernel_rfl)) rfl rfl rfl ?_ <;> refine AL.det (AOp.len rfl rfl (by kernel_rfl)) rfl rfl rfl ?_ <;> (first | refine AL.ev rfl rfl rfl rfl ?_ | refine AL.det (AOp.add rfl rfl (by omega)) rfl rfl rfl ?_ | refine AL.det (AOp.sub rfl rfl (by omega)) rfl rfl rfl ?_ | refine AL.det (AOp.bool_eq (by kernel_rfl) rfl rfl) rfl rfl rfl ?_ | refine AL.det (AOp.bool_ne (by kernel_rfl) rfl rfl) rfl rfl rfl ?_) <;> refine AL.nil ?_)
          | (refine AW.region_at 16 ?_ <;> refine AL.ev rfl rfl rfl rfl ?_ <;> refine AL.ev rfl rfl rfl rfl ?_ <;> refine AL.ev rfl rfl rfl rfl ?_ <;> (first | refine AL.det (AOp.index_sl rfl rfl (by omega) h0 (by kernel_rfl) rfl) rfl rfl rfl ?_ | refine AL.det (AOp.index_sl rfl rfl (by omega) h0' (by kernel_rfl) rfl) rfl rfl rfl ?_ | refine AL.det (AOp.index_sl rfl rfl (by omega) hr' (by kernel_rfl) rfl) rfl rfl rfl ?_ | refine AL.det (AOp.index_sl rfl rfl (by omega) ht' (by kernel_rfl) rfl) rfl rfl rfl ?_) <;> (first | refine AL.det (AOp.field_at rfl rfl (by kernel_rfl) rfl) rfl rfl rfl ?_ | refine AL.det (AOp.field_ref (off := 1) rfl (by kernel_rfl)) rfl rfl rfl ?_) <;> refine AL.det (AOp.load_at rfl rfl (by kernel_rfl)) rfl rfl rfl ?_ <;> refine AL.ev rfl rfl rfl rfl ?_ <;> (first | refine AL.det (AOp.index_sl rfl rfl (by omega) h0 (by kernel_rfl) rfl) rfl rfl rfl ?_ | refine AL.det (AOp.index_sl rfl rfl (by omega) h0' (by kernel_rfl) rfl) rfl rfl rfl ?_ | refine AL.det (AOp.index_sl rfl rfl (by omega) hr' (by kernel_rfl) rfl) rfl rfl rfl ?_ | refine AL.det (AOp.index_sl rfl rfl (by omega) ht' (by kernel_rfl) rfl) rfl rfl rfl ?_) <;> (first | refine AL.det (AOp.field_at rfl rfl (by kernel_rfl) rfl) rfl rfl rfl ?_ | refine AL.det (AOp.field_ref (off := 2) rfl (by kernel_rfl)) rfl rfl rfl ?_) <;> refine AL.det (AOp.load_at rfl rfl (by kernel_rfl)) rfl rfl rfl ?_ <;> refine AL.ev rfl rfl rfl rfl ?_ <;> (first | refine AL.det (AOp.index_sl rfl rfl (by omega) h0 (by kernel_rfl) rfl) rfl rfl rfl ?_ | refine AL.det (AOp.index_sl rfl rfl (by omega) h0' (by kernel_rfl) rfl) rfl rfl rfl ?_ | refine AL.det (AOp.index_sl rfl rfl (by omega) hr' (by kernel_rfl) rfl) rfl rfl rfl ?_ | refine AL.det (AOp.index_sl rfl rfl (by omega) ht' (by kernel_rfl) rfl) rfl rfl rfl ?_) <;> refine AL.det (AOp.load_at rfl rfl (by kernel_rfl)) rfl rfl rfl ?_ <;> refine AL.det (AOp.len rfl rfl (by kernel_rfl)) rfl rfl rfl ?_ <;> (first | refine AL.ev rfl rfl rfl rfl ?_ | refine AL.det (AOp.add rfl rfl (by omega)) rfl rfl rfl ?_ | refine AL.det (AOp.sub rfl rfl (by omega)) rfl rfl rfl ?_ | refine AL.det (AOp.bool_eq (by kernel_rfl) rfl rfl) rfl rfl rfl ?_ | refine AL.det (AOp.bool_ne (by kernel_rfl) rfl rfl) rfl rfl rfl ?_) <;> refine AL.ev rfl rfl rfl rfl ?_ <;> refine AL.nil ?_)
          | (refine AW.region_at 15 ?_ <;> refine AL.ev rfl rfl rfl rfl ?_ <;> (first | refine AL.ev rfl rfl rfl rfl ?_ | refine AL.det (AOp.add rfl rfl (by omega)) rfl rfl rfl ?_ | refine AL.det (AOp.sub rfl rfl (by omega)) rfl rfl rfl ?_ | refine AL.det (AOp.bool_eq (by kernel_rfl) rfl rfl) rfl rfl rfl ?_ | refine AL.det (AOp.bool_ne (by kernel_rfl) rfl rfl) rfl rfl rfl ?_) <;> refine AL.ev rfl rfl rfl rfl ?_ <;> refine AL.nil ?_)
          | refine AW.cond_true rfl ?_
          | refine AW.cond_false rfl ?_
          | refine AW.block ?_
          | refine AW.endblk ?_
          | refine AW.skip ?_
          | refine AW.exit rfl ?_
          | refine AW.label ?_
          | refine AW.cond rfl (fun hb => ?_) (fun hb => ?_))
        all_goals first
          | (exfalso; simp only [decide_eq_true_eq, decide_eq_false_iff_not, List.length_map] at *; omega)
          | exact AW.again_keep (r.Tuples.length - (j + 1)) [0, 3, 4, 5, 6, 7] (by omega) ⟨j + 1, _, hlt3, rfl, rfl, rfl, by omega, by omega⟩
      · repeat' (first
          | refine AW.seq ?_
          | (refine AW.region_at 14 ?_ <;> refine AL.ev rfl rfl rfl rfl ?_ <;> refine AL.ev rfl rfl rfl rfl ?_ <;> refine AL.ev rfl rfl rfl rfl ?_ <;> (first | refine AL.det (AOp.index_sl rfl rfl (by omega) h0 (by kernel_rfl) rfl) rfl rfl rfl ?_ | refine AL.det (AOp.index_sl rfl rfl (by omega) h0' (by kernel_rfl) rfl) rfl rfl rfl ?_ | refine AL.det (AOp.index_sl rfl rfl (by omega) hr' (by kernel_rfl) rfl) rfl rfl rfl ?_) <;> (first | refine AL.det (AOp.field_at rfl rfl (by kernel_rfl) rfl) rfl rfl rfl ?_ | refine AL.det (AOp.field_ref (off := 1) rfl (by kernel_rfl)) rfl rfl rfl ?_) <;> refine AL.det (AOp.load_at rfl rfl (by kernel_rfl)) rfl rfl rfl ?_ <;> refine AL.ev rfl rfl rfl rfl ?_ <;> (first | refine AL.det (AOp.index_sl rfl rfl (by omega) h0 (by kernel_rfl) rfl) rfl rfl rfl ?_ | refine AL.det (AOp.index_sl rfl rfl (by omega) h0' (by kernel_rfl) rfl) rfl rfl rfl ?_ | refine AL.det (AOp.index_sl rfl rfl (by omega) hr' (by kernel_rfl) rfl) rfl rfl rfl ?_) <;> (first | refine AL.det (AOp.field_at rfl rfl (by kernel_rfl) rfl) rfl rfl rfl ?_ | refine AL.det (AOp.field_ref (off := 2) rfl (by kernel_rfl)) rfl rfl rfl ?_) <;> refine AL.det (AOp.load_at rfl rfl (by kernel_rfl)) rfl rfl rfl ?_ <;> refine AL.det (AOp.len rfl rfl (by kernel_rfl)) rfl rfl rfl ?_ <;> (first | refine AL.ev rfl rfl rfl rfl ?_ | refine AL.det (AOp.add rfl rfl (by omega)) rfl rfl rfl ?_ | refine AL.det (AOp.sub rfl rfl (by omega)) rfl rfl rfl ?_ | refine AL.det (AOp.bool_eq (by kernel_rfl) rfl rfl) rfl rfl rfl ?_ | refine AL.det (AOp.bool_ne (by kernel_rfl) rfl rfl) rfl rfl rfl ?_) <;> refine AL.nil ?_)
          | (refine AW.region_at 9 ?_ <;> refine AL.ev rfl rfl rfl rfl ?_ <;> (first | refine AL.ev rfl rfl rfl rfl ?_ | refine AL.det (AOp.add rfl rfl (by omega)) rfl rfl rfl ?_ | refine AL.det (AOp.sub rfl rfl (by omega)) rfl rfl rfl ?_ | refine AL.det (AOp.bool_eq (by kernel_rfl) rfl rfl) rfl rfl rfl ?_ | refine AL.det (AOp.bool_ne (by kernel_rfl) rfl rfl) rfl rfl rfl ?_) <;> refine AL.ev rfl rfl rfl rfl ?_ <;> refine AL.nil ?_)
          | refine AW.cond_true rfl ?_
          | refine AW.cond_false rfl ?_
          | refine AW.block ?_
          | refine AW.endblk ?_
          | refine AW.skip ?_
          | refine AW.exit rfl ?_
          | refine AW.label ?_
          | refine AW.cond rfl (fun hb => ?_) (fun hb => ?_))
        all_goals first
          | (exfalso; simp only [decide_eq_true_eq, decide_eq_false_iff_not, List.length_map] at *; omega)
          | exact AW.again_keep (s.Rels.length - (k + 1)) [0, 3, 4, 5, 6] (by omega) ⟨k + 1, _, _, hlt2, rfl, rfl, rfl, by omega, by omega, he0, by rw [hTl]; rw [show j = r.Tuples.length from by omega] at he1; exact he1⟩
    · repeat' (first
        | refine AW.seq ?_
        | (refine AW.region_at 8 ?_ <;> refine AL.ev rfl rfl rfl rfl ?_ <;> refine AL.ev rfl rfl rfl rfl ?_ <;> refine AL.ev rfl rfl rfl rfl ?_ <;> (first | refine AL.det (AOp.index_sl rfl rfl (by omega) h0 (by kernel_rfl) rfl) rfl rfl rfl ?_ | refine AL.det (AOp.index_sl rfl rfl (by omega) h0' (by kernel_rfl) rfl) rfl rfl rfl ?_) <;> (first | refine AL.det (AOp.field_at rfl rfl (by kernel_rfl) rfl) rfl rfl rfl ?_ | refine AL.det (AOp.field_ref (off := 1) rfl (by kernel_rfl)) rfl rfl rfl ?_) <;> refine AL.det (AOp.load_at rfl rfl (by kernel_rfl)) rfl rfl rfl ?_ <;> refine AL.det (AOp.len rfl rfl (by kernel_rfl)) rfl rfl rfl ?_ <;> (first | refine AL.ev rfl rfl rfl rfl ?_ | refine AL.det (AOp.add rfl rfl (by omega)) rfl rfl rfl ?_ | refine AL.det (AOp.sub rfl rfl (by omega)) rfl rfl rfl ?_ | refine AL.det (AOp.bool_eq (by kernel_rfl) rfl rfl) rfl rfl rfl ?_ | refine AL.det (AOp.bool_ne (by kernel_rfl) rfl rfl) rfl rfl rfl ?_) <;> refine AL.nil ?_)
        | (refine AW.region_at 4 ?_ <;> refine AL.ev rfl rfl rfl rfl ?_ <;> (first | refine AL.ev rfl rfl rfl rfl ?_ | refine AL.det (AOp.add rfl rfl (by omega)) rfl rfl rfl ?_ | refine AL.det (AOp.sub rfl rfl (by omega)) rfl rfl rfl ?_ | refine AL.det (AOp.bool_eq (by kernel_rfl) rfl rfl) rfl rfl rfl ?_ | refine AL.det (AOp.bool_ne (by kernel_rfl) rfl rfl) rfl rfl rfl ?_) <;> refine AL.ev rfl rfl rfl rfl ?_ <;> refine AL.nil ?_)
        | refine AW.cond_true rfl ?_
        | refine AW.cond_false rfl ?_
        | refine AW.block ?_
        | refine AW.endblk ?_
        | refine AW.skip ?_
        | refine AW.exit rfl ?_
        | refine AW.label ?_
        | refine AW.cond rfl (fun hb => ?_) (fun hb => ?_))
      all_goals first
        | (exfalso; simp only [decide_eq_true_eq, decide_eq_false_iff_not, List.length_map] at *; omega)
        | exact AW.again_keep 0 [0, 3, 4, 5] (by omega) ⟨1, T, e, by omega, rfl, rfl, rfl, hT0, hT1, he0, he1, by omega⟩
  · repeat' (first
      | refine AW.seq ?_
      | (refine AW.region_at 3 ?_ <;> refine AL.ev rfl rfl rfl rfl ?_ <;> refine AL.ev rfl rfl rfl rfl ?_ <;> refine AL.det (AOp.len rfl rfl (by kernel_rfl)) rfl rfl rfl ?_ <;> (first | refine AL.ev rfl rfl rfl rfl ?_ | refine AL.det (AOp.add rfl rfl (by omega)) rfl rfl rfl ?_ | refine AL.det (AOp.sub rfl rfl (by omega)) rfl rfl rfl ?_ | refine AL.det (AOp.bool_eq (by kernel_rfl) rfl rfl) rfl rfl rfl ?_ | refine AL.det (AOp.bool_ne (by kernel_rfl) rfl rfl) rfl rfl rfl ?_) <;> refine AL.nil ?_)
      | (refine AW.region_at 17 ?_ <;> refine AL.ev rfl rfl rfl rfl ?_ <;> (first | refine AL.ev rfl rfl rfl rfl ?_ | refine AL.det (AOp.add rfl rfl (by omega)) rfl rfl rfl ?_ | refine AL.det (AOp.sub rfl rfl (by omega)) rfl rfl rfl ?_ | refine AL.det (AOp.bool_eq (by kernel_rfl) rfl rfl) rfl rfl rfl ?_ | refine AL.det (AOp.bool_ne (by kernel_rfl) rfl rfl) rfl rfl rfl ?_) <;> refine AL.ev rfl rfl rfl rfl ?_ <;> refine AL.nil ?_)
      | refine AW.cond_true rfl ?_
      | refine AW.cond_false rfl ?_
      | refine AW.block ?_
      | refine AW.endblk ?_
      | refine AW.skip ?_
      | refine AW.exit rfl ?_
      | refine AW.label ?_
      | refine AW.cond rfl (fun hb => ?_) (fun hb => ?_))
    all_goals first
      | (exfalso; simp only [decide_eq_true_eq, decide_eq_false_iff_not, List.length_cons, List.length_nil] at *; omega)
      | exact AW.retv rfl ⟨_, rfl, rfl⟩
      | exact AW.donev rfl ⟨_, rfl, rfl⟩
end Go.Proofs.Ytdedkpfbfklgbaa
