/- Contracts: search in lists of numbers and of relations. -/
import Derived.Test.YtdedkpfbfklgbaaC1
namespace Go.Proofs.Ytdedkpfbfklgbaa
open Go.RowKit Go.SX
set_option maxRecDepth 100000
set_option linter.unusedVariables false

theorem IndexFunc_int (xs : List Int) (hl : xs.length ≤ 4611686018427387904) (fid : FuncId) (caps : List AV) (p : Int → Bool) (hf : ∀ x ∈ xs, Tri Try.prog fid ((iav x) :: caps) [] (D (.bool (p x)) [])) :
    Tri Try.prog 82 [.sl (xs.map iav), .fn fid caps] [] (D (.int .i64 (idxFrom p xs 0)) []) := by
  refine Tri.enter 19 Try.func82 rfl rfl rfl rfl fun Fr w0 => ?_
  repeat (first
    | refine AL.ev rfl rfl rfl rfl ?_
    | refine AW.seq ?_
    | refine AL.nil ?_
    | refine AW.region ?_
    | refine AL.det (AOp.load_at rfl rfl (by kernel_rfl)) rfl rfl rfl ?_
    | refine AL.det (AOp.field_at rfl rfl (by kernel_rfl) rfl) rfl rfl rfl ?_
    | refine AL.det (AOp.len rfl rfl (by kernel_rfl)) rfl rfl rfl ?_
    | refine AL.det (AOp.field_ref rfl (by kernel_rfl)) rfl rfl rfl ?_
    | refine AL.guard_do rfl rfl rfl rfl ?_
    | refine AL.guard_skip rfl rfl rfl rfl rfl ?_
    | refine AW.cond_true rfl ?_
    | refine AW.cond_false rfl ?_
    | refine AW.block ?_
    | refine AW.endblk ?_
    | refine AW.skip ?_
    | refine AW.exit rfl ?_
    | refine AW.label ?_
    | refine AL.det (AOp.add rfl rfl (by omega)) rfl rfl rfl ?_
    | refine AL.det (AOp.sub rfl rfl (by omega)) rfl rfl rfl ?_
    | refine AL.det (AOp.max2 rfl rfl) rfl rfl rfl ?_
    | refine AL.det (AOp.min2 rfl rfl) rfl rfl rfl ?_
    | refine AL.det (AOp.bool_eq (by kernel_rfl) rfl rfl) rfl rfl rfl ?_
    | refine AL.det (AOp.bool_ne (by kernel_rfl) rfl rfl) rfl rfl rfl ?_
    | refine AL.det (AOp.build (by kernel_rfl) rfl rfl rfl) rfl rfl rfl ?_)
  refine AW.prune [0, 1, 7, 8] (AW.loop (fun m af h => ∃ k : Nat, k ≤ xs.length ∧ m = xs.length - k ∧ af = [(0, .sl (xs.map iav)), (1, .fn fid caps), (7, .int .i64 (xs.map iav).length), (8, .int .i64 k)] ∧ h = [] ∧ idxFrom p xs 0 = idxFrom p (xs.drop k) k) xs.length ⟨0, Nat.zero_le _, rfl, rfl, rfl, rfl⟩ ?_)
  rintro m af h ⟨k, hk, rfl, rfl, rfl, hp⟩
  repeat (first
    | refine AL.ev rfl rfl rfl rfl ?_
    | refine AW.seq ?_
    | refine AL.nil ?_
    | refine AW.region ?_
    | refine AL.det (AOp.load_at rfl rfl (by kernel_rfl)) rfl rfl rfl ?_
    | refine AL.det (AOp.field_at rfl rfl (by kernel_rfl) rfl) rfl rfl rfl ?_
    | refine AL.det (AOp.len rfl rfl (by kernel_rfl)) rfl rfl rfl ?_
    | refine AL.det (AOp.field_ref rfl (by kernel_rfl)) rfl rfl rfl ?_
    | refine AL.guard_do rfl rfl rfl rfl ?_
    | refine AL.guard_skip rfl rfl rfl rfl rfl ?_
    | refine AW.cond_true rfl ?_
    | refine AW.cond_false rfl ?_
    | refine AW.block ?_
    | refine AW.endblk ?_
    | refine AW.skip ?_
    | refine AW.exit rfl ?_
    | refine AW.label ?_
    | refine AL.det (AOp.add rfl rfl (by omega)) rfl rfl rfl ?_
    | refine AL.det (AOp.sub rfl rfl (by omega)) rfl rfl rfl ?_
    | refine AL.det (AOp.max2 rfl rfl) rfl rfl rfl ?_
    | refine AL.det (AOp.min2 rfl rfl) rfl rfl rfl ?_
    | refine AL.det (AOp.bool_eq (by kernel_rfl) rfl rfl) rfl rfl rfl ?_
    | refine AL.det (AOp.bool_ne (by kernel_rfl) rfl rfl) rfl rfl rfl ?_
    | refine AL.det (AOp.build (by kernel_rfl) rfl rfl rfl) rfl rfl rfl ?_)
  refine AW.cond rfl (fun hb => ?_) (fun hb => ?_)
  · have hlt : k < xs.length := by simpa using hb
    obtain ⟨x, hx⟩ := get_lt hlt
    have hx' : (xs.map iav)[((k : Nat) : Int).toNat]? = some (iav x) := map_get hx
    have hc := hf x (List.mem_of_getElem? hx)
    repeat (first
      | refine AL.det (AOp.index_sl rfl rfl (by omega) hx' (by kernel_rfl) rfl) rfl rfl rfl ?_
      | refine AL.det (AOp.call rfl rfl hc) rfl rfl rfl ?_
      | refine AL.ev rfl rfl rfl rfl ?_
      | refine AW.seq ?_
      | refine AL.nil ?_
      | refine AW.region ?_
      | refine AL.det (AOp.load_at rfl rfl (by kernel_rfl)) rfl rfl rfl ?_
      | refine AL.det (AOp.field_at rfl rfl (by kernel_rfl) rfl) rfl rfl rfl ?_
      | refine AL.det (AOp.len rfl rfl (by kernel_rfl)) rfl rfl rfl ?_
      | refine AL.det (AOp.field_ref rfl (by kernel_rfl)) rfl rfl rfl ?_
      | refine AL.guard_do rfl rfl rfl rfl ?_
      | refine AL.guard_skip rfl rfl rfl rfl rfl ?_
      | refine AW.cond_true rfl ?_
      | refine AW.cond_false rfl ?_
      | refine AW.block ?_
      | refine AW.endblk ?_
      | refine AW.skip ?_
      | refine AW.exit rfl ?_
      | refine AW.label ?_
      | refine AL.det (AOp.add rfl rfl (by omega)) rfl rfl rfl ?_
      | refine AL.det (AOp.sub rfl rfl (by omega)) rfl rfl rfl ?_
      | refine AL.det (AOp.max2 rfl rfl) rfl rfl rfl ?_
      | refine AL.det (AOp.min2 rfl rfl) rfl rfl rfl ?_
      | refine AL.det (AOp.bool_eq (by kernel_rfl) rfl rfl) rfl rfl rfl ?_
      | refine AL.det (AOp.bool_ne (by kernel_rfl) rfl rfl) rfl rfl rfl ?_
      | refine AL.det (AOp.build (by kernel_rfl) rfl rfl rfl) rfl rfl rfl ?_)
    rw [drop_cons hx] at hp
    simp only [idxFrom] at hp
    refine AW.cond rfl (fun hb => ?_) (fun hb => ?_)
    · repeat (first
        | refine AL.ev rfl rfl rfl rfl ?_
        | refine AW.seq ?_
        | refine AL.nil ?_
        | refine AW.region ?_
        | refine AL.det (AOp.load_at rfl rfl (by kernel_rfl)) rfl rfl rfl ?_
        | refine AL.det (AOp.field_at rfl rfl (by kernel_rfl) rfl) rfl rfl rfl ?_
        | refine AL.det (AOp.len rfl rfl (by kernel_rfl)) rfl rfl rfl ?_
        | refine AL.det (AOp.field_ref rfl (by kernel_rfl)) rfl rfl rfl ?_
        | refine AL.guard_do rfl rfl rfl rfl ?_
        | refine AL.guard_skip rfl rfl rfl rfl rfl ?_
        | refine AW.cond_true rfl ?_
        | refine AW.cond_false rfl ?_
        | refine AW.block ?_
        | refine AW.endblk ?_
        | refine AW.skip ?_
        | refine AW.exit rfl ?_
        | refine AW.label ?_
        | refine AL.det (AOp.add rfl rfl (by omega)) rfl rfl rfl ?_
        | refine AL.det (AOp.sub rfl rfl (by omega)) rfl rfl rfl ?_
        | refine AL.det (AOp.max2 rfl rfl) rfl rfl rfl ?_
        | refine AL.det (AOp.min2 rfl rfl) rfl rfl rfl ?_
        | refine AL.det (AOp.bool_eq (by kernel_rfl) rfl rfl) rfl rfl rfl ?_
        | refine AL.det (AOp.bool_ne (by kernel_rfl) rfl rfl) rfl rfl rfl ?_
        | refine AL.det (AOp.build (by kernel_rfl) rfl rfl rfl) rfl rfl rfl ?_)
      rw [if_pos hb] at hp
      exact AW.retv rfl ⟨by rw [hp], rfl⟩
    · rw [if_neg (by simp [hb])] at hp
      repeat (first
        | refine AL.ev rfl rfl rfl rfl ?_
        | refine AW.seq ?_
        | refine AL.nil ?_
        | refine AW.region ?_
        | refine AL.det (AOp.load_at rfl rfl (by kernel_rfl)) rfl rfl rfl ?_
        | refine AL.det (AOp.field_at rfl rfl (by kernel_rfl) rfl) rfl rfl rfl ?_
        | refine AL.det (AOp.len rfl rfl (by kernel_rfl)) rfl rfl rfl ?_
        | refine AL.det (AOp.field_ref rfl (by kernel_rfl)) rfl rfl rfl ?_
        | refine AL.guard_do rfl rfl rfl rfl ?_
        | refine AL.guard_skip rfl rfl rfl rfl rfl ?_
        | refine AW.cond_true rfl ?_
        | refine AW.cond_false rfl ?_
        | refine AW.block ?_
        | refine AW.endblk ?_
        | refine AW.skip ?_
        | refine AW.exit rfl ?_
        | refine AW.label ?_
        | refine AL.det (AOp.add rfl rfl (by omega)) rfl rfl rfl ?_
        | refine AL.det (AOp.sub rfl rfl (by omega)) rfl rfl rfl ?_
        | refine AL.det (AOp.max2 rfl rfl) rfl rfl rfl ?_
        | refine AL.det (AOp.min2 rfl rfl) rfl rfl rfl ?_
        | refine AL.det (AOp.bool_eq (by kernel_rfl) rfl rfl) rfl rfl rfl ?_
        | refine AL.det (AOp.bool_ne (by kernel_rfl) rfl rfl) rfl rfl rfl ?_
        | refine AL.det (AOp.build (by kernel_rfl) rfl rfl rfl) rfl rfl rfl ?_)
      exact AW.again_keep (xs.length - (k + 1)) [0, 1, 7, 8] (by omega) ⟨k + 1, hlt, rfl, rfl, rfl, hp⟩
  · have hge : k = xs.length := by
      have : ¬ k < xs.length := by simpa using hb
      omega
    subst hge
    repeat (first
      | refine AL.ev rfl rfl rfl rfl ?_
      | refine AW.seq ?_
      | refine AL.nil ?_
      | refine AW.region ?_
      | refine AL.det (AOp.load_at rfl rfl (by kernel_rfl)) rfl rfl rfl ?_
      | refine AL.det (AOp.field_at rfl rfl (by kernel_rfl) rfl) rfl rfl rfl ?_
      | refine AL.det (AOp.len rfl rfl (by kernel_rfl)) rfl rfl rfl ?_
      | refine AL.det (AOp.field_ref rfl (by kernel_rfl)) rfl rfl rfl ?_
      | refine AL.guard_do rfl rfl rfl rfl ?_
      | refine AL.guard_skip rfl rfl rfl rfl rfl ?_
      | refine AW.cond_true rfl ?_
      | refine AW.cond_false rfl ?_
      | refine AW.block ?_
      | refine AW.endblk ?_
      | refine AW.skip ?_
      | refine AW.exit rfl ?_
      | refine AW.label ?_
      | refine AL.det (AOp.add rfl rfl (by omega)) rfl rfl rfl ?_
      | refine AL.det (AOp.sub rfl rfl (by omega)) rfl rfl rfl ?_
      | refine AL.det (AOp.max2 rfl rfl) rfl rfl rfl ?_
      | refine AL.det (AOp.min2 rfl rfl) rfl rfl rfl ?_
      | refine AL.det (AOp.bool_eq (by kernel_rfl) rfl rfl) rfl rfl rfl ?_
      | refine AL.det (AOp.bool_ne (by kernel_rfl) rfl rfl) rfl rfl rfl ?_
      | refine AL.det (AOp.build (by kernel_rfl) rfl rfl rfl) rfl rfl rfl ?_)
    refine AW.retv rfl ⟨?_, rfl⟩
    rw [hp]; simp [idxFrom]; rfl

theorem ContainsFunc_int (xs : List Int) (hl : xs.length ≤ 4611686018427387904) (fid : FuncId) (caps : List AV) (p : Int → Bool) (hf : ∀ x ∈ xs, Tri Try.prog fid ((iav x) :: caps) [] (D (.bool (p x)) [])) :
    Tri Try.prog 78 [.sl (xs.map iav), .fn fid caps] [] (D (.bool (xs.any p)) []) := by
  have hc := IndexFunc_int xs hl fid caps p hf
  refine Tri.enter 9 Try.func78 rfl rfl rfl rfl fun Fr w0 => ?_
  repeat (first
    | refine AL.det (AOp.call rfl rfl hc) rfl rfl rfl ?_
    | refine AL.ev rfl rfl rfl rfl ?_
    | refine AW.seq ?_
    | refine AL.nil ?_
    | refine AW.region ?_
    | refine AL.det (AOp.load_at rfl rfl (by kernel_rfl)) rfl rfl rfl ?_
    | refine AL.det (AOp.field_at rfl rfl (by kernel_rfl) rfl) rfl rfl rfl ?_
    | refine AL.det (AOp.len rfl rfl (by kernel_rfl)) rfl rfl rfl ?_
    | refine AL.det (AOp.field_ref rfl (by kernel_rfl)) rfl rfl rfl ?_
    | refine AL.guard_do rfl rfl rfl rfl ?_
    | refine AL.guard_skip rfl rfl rfl rfl rfl ?_
    | refine AW.cond_true rfl ?_
    | refine AW.cond_false rfl ?_
    | refine AW.block ?_
    | refine AW.endblk ?_
    | refine AW.skip ?_
    | refine AW.exit rfl ?_
    | refine AW.label ?_
    | refine AL.det (AOp.add rfl rfl (by omega)) rfl rfl rfl ?_
    | refine AL.det (AOp.sub rfl rfl (by omega)) rfl rfl rfl ?_
    | refine AL.det (AOp.max2 rfl rfl) rfl rfl rfl ?_
    | refine AL.det (AOp.min2 rfl rfl) rfl rfl rfl ?_
    | refine AL.det (AOp.bool_eq (by kernel_rfl) rfl rfl) rfl rfl rfl ?_
    | refine AL.det (AOp.bool_ne (by kernel_rfl) rfl rfl) rfl rfl rfl ?_
    | refine AL.det (AOp.build (by kernel_rfl) rfl rfl rfl) rfl rfl rfl ?_)
  refine AW.retv rfl ⟨?_, rfl⟩
  have := idxFrom_lt (p := p) xs 0
  have h2 : decide (idxFrom p xs 0 ≥ 0) = xs.any p := by rw [Bool.eq_iff_iff, decide_eq_true_iff, this]
  rw [h2]

theorem IndexFunc_poly (xs : List Int) (hl : xs.length ≤ 4611686018427387904) (fid : FuncId) (caps : List AV) (p : Int → Bool) (hf : ∀ x ∈ xs, Tri Try.prog fid ((iav x) :: caps) [] (D (.bool (p x)) [])) :
    Tri Try.prog 34 [.sl (xs.map iav), .fn fid caps] [] (D (.int .i64 (idxFrom p xs 0)) []) := by
  refine Tri.enter 19 Try.func34 rfl rfl rfl rfl fun Fr w0 => ?_
  repeat (first
    | refine AL.ev rfl rfl rfl rfl ?_
    | refine AW.seq ?_
    | refine AL.nil ?_
    | refine AW.region ?_
    | refine AL.det (AOp.load_at rfl rfl (by kernel_rfl)) rfl rfl rfl ?_
    | refine AL.det (AOp.field_at rfl rfl (by kernel_rfl) rfl) rfl rfl rfl ?_
    | refine AL.det (AOp.len rfl rfl (by kernel_rfl)) rfl rfl rfl ?_
    | refine AL.det (AOp.field_ref rfl (by kernel_rfl)) rfl rfl rfl ?_
    | refine AL.guard_do rfl rfl rfl rfl ?_
    | refine AL.guard_skip rfl rfl rfl rfl rfl ?_
    | refine AW.cond_true rfl ?_
    | refine AW.cond_false rfl ?_
    | refine AW.block ?_
    | refine AW.endblk ?_
    | refine AW.skip ?_
    | refine AW.exit rfl ?_
    | refine AW.label ?_
    | refine AL.det (AOp.add rfl rfl (by omega)) rfl rfl rfl ?_
    | refine AL.det (AOp.sub rfl rfl (by omega)) rfl rfl rfl ?_
    | refine AL.det (AOp.max2 rfl rfl) rfl rfl rfl ?_
    | refine AL.det (AOp.min2 rfl rfl) rfl rfl rfl ?_
    | refine AL.det (AOp.bool_eq (by kernel_rfl) rfl rfl) rfl rfl rfl ?_
    | refine AL.det (AOp.bool_ne (by kernel_rfl) rfl rfl) rfl rfl rfl ?_
    | refine AL.det (AOp.build (by kernel_rfl) rfl rfl rfl) rfl rfl rfl ?_)
  refine AW.prune [0, 1, 7, 8] (AW.loop (fun m af h => ∃ k : Nat, k ≤ xs.length ∧ m = xs.length - k ∧ af = [(0, .sl (xs.map iav)), (1, .fn fid caps), (7, .int .i64 (xs.map iav).length), (8, .int .i64 k)] ∧ h = [] ∧ idxFrom p xs 0 = idxFrom p (xs.drop k) k) xs.length ⟨0, Nat.zero_le _, rfl, rfl, rfl, rfl⟩ ?_)
  rintro m af h ⟨k, hk, rfl, rfl, rfl, hp⟩
  repeat (first
    | refine AL.ev rfl rfl rfl rfl ?_
    | refine AW.seq ?_
    | refine AL.nil ?_
    | refine AW.region ?_
    | refine AL.det (AOp.load_at rfl rfl (by kernel_rfl)) rfl rfl rfl ?_
    | refine AL.det (AOp.field_at rfl rfl (by kernel_rfl) rfl) rfl rfl rfl ?_
    | refine AL.det (AOp.len rfl rfl (by kernel_rfl)) rfl rfl rfl ?_
    | refine AL.det (AOp.field_ref rfl (by kernel_rfl)) rfl rfl rfl ?_
    | refine AL.guard_do rfl rfl rfl rfl ?_
    | refine AL.guard_skip rfl rfl rfl rfl rfl ?_
    | refine AW.cond_true rfl ?_
    | refine AW.cond_false rfl ?_
    | refine AW.block ?_
    | refine AW.endblk ?_
    | refine AW.skip ?_
    | refine AW.exit rfl ?_
    | refine AW.label ?_
    | refine AL.det (AOp.add rfl rfl (by omega)) rfl rfl rfl ?_
    | refine AL.det (AOp.sub rfl rfl (by omega)) rfl rfl rfl ?_
    | refine AL.det (AOp.max2 rfl rfl) rfl rfl rfl ?_
    | refine AL.det (AOp.min2 rfl rfl) rfl rfl rfl ?_
    | refine AL.det (AOp.bool_eq (by kernel_rfl) rfl rfl) rfl rfl rfl ?_
    | refine AL.det (AOp.bool_ne (by kernel_rfl) rfl rfl) rfl rfl rfl ?_
    | refine AL.det (AOp.build (by kernel_rfl) rfl rfl rfl) rfl rfl rfl ?_)
  refine AW.cond rfl (fun hb => ?_) (fun hb => ?_)
  · have hlt : k < xs.length := by simpa using hb
    obtain ⟨x, hx⟩ := get_lt hlt
    have hx' : (xs.map iav)[((k : Nat) : Int).toNat]? = some (iav x) := map_get hx
    have hc := hf x (List.mem_of_getElem? hx)
    repeat (first
      | refine AL.det (AOp.index_sl rfl rfl (by omega) hx' (by kernel_rfl) rfl) rfl rfl rfl ?_
      | refine AL.det (AOp.call rfl rfl hc) rfl rfl rfl ?_
      | refine AL.ev rfl rfl rfl rfl ?_
      | refine AW.seq ?_
      | refine AL.nil ?_
      | refine AW.region ?_
      | refine AL.det (AOp.load_at rfl rfl (by kernel_rfl)) rfl rfl rfl ?_
      | refine AL.det (AOp.field_at rfl rfl (by kernel_rfl) rfl) rfl rfl rfl ?_
      | refine AL.det (AOp.len rfl rfl (by kernel_rfl)) rfl rfl rfl ?_
      | refine AL.det (AOp.field_ref rfl (by kernel_rfl)) rfl rfl rfl ?_
      | refine AL.guard_do rfl rfl rfl rfl ?_
      | refine AL.guard_skip rfl rfl rfl rfl rfl ?_
      | refine AW.cond_true rfl ?_
      | refine AW.cond_false rfl ?_
      | refine AW.block ?_
      | refine AW.endblk ?_
      | refine AW.skip ?_
      | refine AW.exit rfl ?_
      | refine AW.label ?_
      | refine AL.det (AOp.add rfl rfl (by omega)) rfl rfl rfl ?_
      | refine AL.det (AOp.sub rfl rfl (by omega)) rfl rfl rfl ?_
      | refine AL.det (AOp.max2 rfl rfl) rfl rfl rfl ?_
      | refine AL.det (AOp.min2 rfl rfl) rfl rfl rfl ?_
      | refine AL.det (AOp.bool_eq (by kernel_rfl) rfl rfl) rfl rfl rfl ?_
      | refine AL.det (AOp.bool_ne (by kernel_rfl) rfl rfl) rfl rfl rfl ?_
      | refine AL.det (AOp.build (by kernel_rfl) rfl rfl rfl) rfl rfl rfl ?_)
    rw [drop_cons hx] at hp
    simp only [idxFrom] at hp
    refine AW.cond rfl (fun hb => ?_) (fun hb => ?_)
    · repeat (first
        | refine AL.ev rfl rfl rfl rfl ?_
        | refine AW.seq ?_
        | refine AL.nil ?_
        | refine AW.region ?_
        | refine AL.det (AOp.load_at rfl rfl (by kernel_rfl)) rfl rfl rfl ?_
        | refine AL.det (AOp.field_at rfl rfl (by kernel_rfl) rfl) rfl rfl rfl ?_
        | refine AL.det (AOp.len rfl rfl (by kernel_rfl)) rfl rfl rfl ?_
        | refine AL.det (AOp.field_ref rfl (by kernel_rfl)) rfl rfl rfl ?_
        | refine AL.guard_do rfl rfl rfl rfl ?_
        | refine AL.guard_skip rfl rfl rfl rfl rfl ?_
        | refine AW.cond_true rfl ?_
        | refine AW.cond_false rfl ?_
        | refine AW.block ?_
        | refine AW.endblk ?_
        | refine AW.skip ?_
        | refine AW.exit rfl ?_
        | refine AW.label ?_
        | refine AL.det (AOp.add rfl rfl (by omega)) rfl rfl rfl ?_
        | refine AL.det (AOp.sub rfl rfl (by omega)) rfl rfl rfl ?_
        | refine AL.det (AOp.max2 rfl rfl) rfl rfl rfl ?_
        | refine AL.det (AOp.min2 rfl rfl) rfl rfl rfl ?_
        | refine AL.det (AOp.bool_eq (by kernel_rfl) rfl rfl) rfl rfl rfl ?_
        | refine AL.det (AOp.bool_ne (by kernel_rfl) rfl rfl) rfl rfl rfl ?_
        | refine AL.det (AOp.build (by kernel_rfl) rfl rfl rfl) rfl rfl rfl ?_)
      rw [if_pos hb] at hp
      exact AW.retv rfl ⟨by rw [hp], rfl⟩
    · rw [if_neg (by simp [hb])] at hp
      repeat (first
        | refine AL.ev rfl rfl rfl rfl ?_
        | refine AW.seq ?_
        | refine AL.nil ?_
        | refine AW.region ?_
        | refine AL.det (AOp.load_at rfl rfl (by kernel_rfl)) rfl rfl rfl ?_
        | refine AL.det (AOp.field_at rfl rfl (by kernel_rfl) rfl) rfl rfl rfl ?_
        | refine AL.det (AOp.len rfl rfl (by kernel_rfl)) rfl rfl rfl ?_
        | refine AL.det (AOp.field_ref rfl (by kernel_rfl)) rfl rfl rfl ?_
        | refine AL.guard_do rfl rfl rfl rfl ?_
        | refine AL.guard_skip rfl rfl rfl rfl rfl ?_
        | refine AW.cond_true rfl ?_
        | refine AW.cond_false rfl ?_
        | refine AW.block ?_
        | refine AW.endblk ?_
        | refine AW.skip ?_
        | refine AW.exit rfl ?_
        | refine AW.label ?_
        | refine AL.det (AOp.add rfl rfl (by omega)) rfl rfl rfl ?_
        | refine AL.det (AOp.sub rfl rfl (by omega)) rfl rfl rfl ?_
        | refine AL.det (AOp.max2 rfl rfl) rfl rfl rfl ?_
        | refine AL.det (AOp.min2 rfl rfl) rfl rfl rfl ?_
        | refine AL.det (AOp.bool_eq (by kernel_rfl) rfl rfl) rfl rfl rfl ?_
        | refine AL.det (AOp.bool_ne (by kernel_rfl) rfl rfl) rfl rfl rfl ?_
        | refine AL.det (AOp.build (by kernel_rfl) rfl rfl rfl) rfl rfl rfl ?_)
      exact AW.again_keep (xs.length - (k + 1)) [0, 1, 7, 8] (by omega) ⟨k + 1, hlt, rfl, rfl, rfl, hp⟩
  · have hge : k = xs.length := by
      have : ¬ k < xs.length := by simpa using hb
      omega
    subst hge
    repeat (first
      | refine AL.ev rfl rfl rfl rfl ?_
      | refine AW.seq ?_
      | refine AL.nil ?_
      | refine AW.region ?_
      | refine AL.det (AOp.load_at rfl rfl (by kernel_rfl)) rfl rfl rfl ?_
      | refine AL.det (AOp.field_at rfl rfl (by kernel_rfl) rfl) rfl rfl rfl ?_
      | refine AL.det (AOp.len rfl rfl (by kernel_rfl)) rfl rfl rfl ?_
      | refine AL.det (AOp.field_ref rfl (by kernel_rfl)) rfl rfl rfl ?_
      | refine AL.guard_do rfl rfl rfl rfl ?_
      | refine AL.guard_skip rfl rfl rfl rfl rfl ?_
      | refine AW.cond_true rfl ?_
      | refine AW.cond_false rfl ?_
      | refine AW.block ?_
      | refine AW.endblk ?_
      | refine AW.skip ?_
      | refine AW.exit rfl ?_
      | refine AW.label ?_
      | refine AL.det (AOp.add rfl rfl (by omega)) rfl rfl rfl ?_
      | refine AL.det (AOp.sub rfl rfl (by omega)) rfl rfl rfl ?_
      | refine AL.det (AOp.max2 rfl rfl) rfl rfl rfl ?_
      | refine AL.det (AOp.min2 rfl rfl) rfl rfl rfl ?_
      | refine AL.det (AOp.bool_eq (by kernel_rfl) rfl rfl) rfl rfl rfl ?_
      | refine AL.det (AOp.bool_ne (by kernel_rfl) rfl rfl) rfl rfl rfl ?_
      | refine AL.det (AOp.build (by kernel_rfl) rfl rfl rfl) rfl rfl rfl ?_)
    refine AW.retv rfl ⟨?_, rfl⟩
    rw [hp]; simp [idxFrom]; rfl

theorem ContainsFunc_poly (xs : List Int) (hl : xs.length ≤ 4611686018427387904) (fid : FuncId) (caps : List AV) (p : Int → Bool) (hf : ∀ x ∈ xs, Tri Try.prog fid ((iav x) :: caps) [] (D (.bool (p x)) [])) :
    Tri Try.prog 18 [.sl (xs.map iav), .fn fid caps] [] (D (.bool (xs.any p)) []) := by
  have hc := IndexFunc_poly xs hl fid caps p hf
  refine Tri.enter 9 Try.func18 rfl rfl rfl rfl fun Fr w0 => ?_
  repeat (first
    | refine AL.det (AOp.call rfl rfl hc) rfl rfl rfl ?_
    | refine AL.ev rfl rfl rfl rfl ?_
    | refine AW.seq ?_
    | refine AL.nil ?_
    | refine AW.region ?_
    | refine AL.det (AOp.load_at rfl rfl (by kernel_rfl)) rfl rfl rfl ?_
    | refine AL.det (AOp.field_at rfl rfl (by kernel_rfl) rfl) rfl rfl rfl ?_
    | refine AL.det (AOp.len rfl rfl (by kernel_rfl)) rfl rfl rfl ?_
    | refine AL.det (AOp.field_ref rfl (by kernel_rfl)) rfl rfl rfl ?_
    | refine AL.guard_do rfl rfl rfl rfl ?_
    | refine AL.guard_skip rfl rfl rfl rfl rfl ?_
    | refine AW.cond_true rfl ?_
    | refine AW.cond_false rfl ?_
    | refine AW.block ?_
    | refine AW.endblk ?_
    | refine AW.skip ?_
    | refine AW.exit rfl ?_
    | refine AW.label ?_
    | refine AL.det (AOp.add rfl rfl (by omega)) rfl rfl rfl ?_
    | refine AL.det (AOp.sub rfl rfl (by omega)) rfl rfl rfl ?_
    | refine AL.det (AOp.max2 rfl rfl) rfl rfl rfl ?_
    | refine AL.det (AOp.min2 rfl rfl) rfl rfl rfl ?_
    | refine AL.det (AOp.bool_eq (by kernel_rfl) rfl rfl) rfl rfl rfl ?_
    | refine AL.det (AOp.bool_ne (by kernel_rfl) rfl rfl) rfl rfl rfl ?_
    | refine AL.det (AOp.build (by kernel_rfl) rfl rfl rfl) rfl rfl rfl ?_)
  refine AW.retv rfl ⟨?_, rfl⟩
  have := idxFrom_lt (p := p) xs 0
  have h2 : decide (idxFrom p xs 0 ≥ 0) = xs.any p := by rw [Bool.eq_iff_iff, decide_eq_true_iff, this]
  rw [h2]

theorem IndexFunc_Rel (xs : List GRel) (hl : xs.length ≤ 4611686018427387904) (fid : FuncId) (caps : List AV) (p : GRel → Bool) (hf : ∀ x ∈ xs, Tri Try.prog fid (x.av :: caps) [] (D (.bool (p x)) [])) :
    Tri Try.prog 42 [.sl (xs.map GRel.av), .fn fid caps] [] (D (.int .i64 (idxFrom p xs 0)) []) := by
  refine Tri.enter 19 Try.func42 rfl rfl rfl rfl fun Fr w0 => ?_
  repeat (first
    | refine AL.ev rfl rfl rfl rfl ?_
    | refine AW.seq ?_
    | refine AL.nil ?_
    | refine AW.region ?_
    | refine AL.det (AOp.load_at rfl rfl (by kernel_rfl)) rfl rfl rfl ?_
    | refine AL.det (AOp.field_at rfl rfl (by kernel_rfl) rfl) rfl rfl rfl ?_
    | refine AL.det (AOp.len rfl rfl (by kernel_rfl)) rfl rfl rfl ?_
    | refine AL.det (AOp.field_ref rfl (by kernel_rfl)) rfl rfl rfl ?_
    | refine AL.guard_do rfl rfl rfl rfl ?_
    | refine AL.guard_skip rfl rfl rfl rfl rfl ?_
    | refine AW.cond_true rfl ?_
    | refine AW.cond_false rfl ?_
    | refine AW.block ?_
    | refine AW.endblk ?_
    | refine AW.skip ?_
    | refine AW.exit rfl ?_
    | refine AW.label ?_
    | refine AL.det (AOp.add rfl rfl (by omega)) rfl rfl rfl ?_
    | refine AL.det (AOp.sub rfl rfl (by omega)) rfl rfl rfl ?_
    | refine AL.det (AOp.max2 rfl rfl) rfl rfl rfl ?_
    | refine AL.det (AOp.min2 rfl rfl) rfl rfl rfl ?_
    | refine AL.det (AOp.bool_eq (by kernel_rfl) rfl rfl) rfl rfl rfl ?_
    | refine AL.det (AOp.bool_ne (by kernel_rfl) rfl rfl) rfl rfl rfl ?_
    | refine AL.det (AOp.build (by kernel_rfl) rfl rfl rfl) rfl rfl rfl ?_)
  refine AW.prune [0, 1, 7, 8] (AW.loop (fun m af h => ∃ k : Nat, k ≤ xs.length ∧ m = xs.length - k ∧ af = [(0, .sl (xs.map GRel.av)), (1, .fn fid caps), (7, .int .i64 (xs.map GRel.av).length), (8, .int .i64 k)] ∧ h = [] ∧ idxFrom p xs 0 = idxFrom p (xs.drop k) k) xs.length ⟨0, Nat.zero_le _, rfl, rfl, rfl, rfl⟩ ?_)
  rintro m af h ⟨k, hk, rfl, rfl, rfl, hp⟩
  repeat (first
    | refine AL.ev rfl rfl rfl rfl ?_
    | refine AW.seq ?_
    | refine AL.nil ?_
    | refine AW.region ?_
    | refine AL.det (AOp.load_at rfl rfl (by kernel_rfl)) rfl rfl rfl ?_
    | refine AL.det (AOp.field_at rfl rfl (by kernel_rfl) rfl) rfl rfl rfl ?_
    | refine AL.det (AOp.len rfl rfl (by kernel_rfl)) rfl rfl rfl ?_
    | refine AL.det (AOp.field_ref rfl (by kernel_rfl)) rfl rfl rfl ?_
    | refine AL.guard_do rfl rfl rfl rfl ?_
    | refine AL.guard_skip rfl rfl rfl rfl rfl ?_
    | refine AW.cond_true rfl ?_
    | refine AW.cond_false rfl ?_
    | refine AW.block ?_
    | refine AW.endblk ?_
    | refine AW.skip ?_
    | refine AW.exit rfl ?_
    | refine AW.label ?_
    | refine AL.det (AOp.add rfl rfl (by omega)) rfl rfl rfl ?_
    | refine AL.det (AOp.sub rfl rfl (by omega)) rfl rfl rfl ?_
    | refine AL.det (AOp.max2 rfl rfl) rfl rfl rfl ?_
    | refine AL.det (AOp.min2 rfl rfl) rfl rfl rfl ?_
    | refine AL.det (AOp.bool_eq (by kernel_rfl) rfl rfl) rfl rfl rfl ?_
    | refine AL.det (AOp.bool_ne (by kernel_rfl) rfl rfl) rfl rfl rfl ?_
    | refine AL.det (AOp.build (by kernel_rfl) rfl rfl rfl) rfl rfl rfl ?_)
  refine AW.cond rfl (fun hb => ?_) (fun hb => ?_)
  · have hlt : k < xs.length := by simpa using hb
    obtain ⟨x, hx⟩ := get_lt hlt
    have hx' : (xs.map GRel.av)[((k : Nat) : Int).toNat]? = some x.av := map_get hx
    have hc := hf x (List.mem_of_getElem? hx)
    repeat (first
      | refine AL.det (AOp.index_sl rfl rfl (by omega) hx' (by kernel_rfl) rfl) rfl rfl rfl ?_
      | refine AL.det (AOp.call rfl rfl hc) rfl rfl rfl ?_
      | refine AL.ev rfl rfl rfl rfl ?_
      | refine AW.seq ?_
      | refine AL.nil ?_
      | refine AW.region ?_
      | refine AL.det (AOp.load_at rfl rfl (by kernel_rfl)) rfl rfl rfl ?_
      | refine AL.det (AOp.field_at rfl rfl (by kernel_rfl) rfl) rfl rfl rfl ?_
      | refine AL.det (AOp.len rfl rfl (by kernel_rfl)) rfl rfl rfl ?_
      | refine AL.det (AOp.field_ref rfl (by kernel_rfl)) rfl rfl rfl ?_
      | refine AL.guard_do rfl rfl rfl rfl ?_
      | refine AL.guard_skip rfl rfl rfl rfl rfl ?_
      | refine AW.cond_true rfl ?_
      | refine AW.cond_false rfl ?_
      | refine AW.block ?_
      | refine AW.endblk ?_
      | refine AW.skip ?_
      | refine AW.exit rfl ?_
      | refine AW.label ?_
      | refine AL.det (AOp.add rfl rfl (by omega)) rfl rfl rfl ?_
      | refine AL.det (AOp.sub rfl rfl (by omega)) rfl rfl rfl ?_
      | refine AL.det (AOp.max2 rfl rfl) rfl rfl rfl ?_
      | refine AL.det (AOp.min2 rfl rfl) rfl rfl rfl ?_
      | refine AL.det (AOp.bool_eq (by kernel_rfl) rfl rfl) rfl rfl rfl ?_
      | refine AL.det (AOp.bool_ne (by kernel_rfl) rfl rfl) rfl rfl rfl ?_
      | refine AL.det (AOp.build (by kernel_rfl) rfl rfl rfl) rfl rfl rfl ?_)
    rw [drop_cons hx] at hp
    simp only [idxFrom] at hp
    refine AW.cond rfl (fun hb => ?_) (fun hb => ?_)
    · repeat (first
        | refine AL.ev rfl rfl rfl rfl ?_
        | refine AW.seq ?_
        | refine AL.nil ?_
        | refine AW.region ?_
        | refine AL.det (AOp.load_at rfl rfl (by kernel_rfl)) rfl rfl rfl ?_
        | refine AL.det (AOp.field_at rfl rfl (by kernel_rfl) rfl) rfl rfl rfl ?_
        | refine AL.det (AOp.len rfl rfl (by kernel_rfl)) rfl rfl rfl ?_
        | refine AL.det (AOp.field_ref rfl (by kernel_rfl)) rfl rfl rfl ?_
        | refine AL.guard_do rfl rfl rfl rfl ?_
        | refine AL.guard_skip rfl rfl rfl rfl rfl ?_
        | refine AW.cond_true rfl ?_
        | refine AW.cond_false rfl ?_
        | refine AW.block ?_
        | refine AW.endblk ?_
        | refine AW.skip ?_
        | refine AW.exit rfl ?_
        | refine AW.label ?_
        | refine AL.det (AOp.add rfl rfl (by omega)) rfl rfl rfl ?_
        | refine AL.det (AOp.sub rfl rfl (by omega)) rfl rfl rfl ?_
        | refine AL.det (AOp.max2 rfl rfl) rfl rfl rfl ?_
        | refine AL.det (AOp.min2 rfl rfl) rfl rfl rfl ?_
        | refine AL.det (AOp.bool_eq (by kernel_rfl) rfl rfl) rfl rfl rfl ?_
        | refine AL.det (AOp.bool_ne (by kernel_rfl) rfl rfl) rfl rfl rfl ?_
        | refine AL.det (AOp.build (by kernel_rfl) rfl rfl rfl) rfl rfl rfl ?_)
      rw [if_pos hb] at hp
      exact AW.retv rfl ⟨by rw [hp], rfl⟩
    · rw [if_neg (by simp [hb])] at hp
      repeat (first
        | refine AL.ev rfl rfl rfl rfl ?_
        | refine AW.seq ?_
        | refine AL.nil ?_
        | refine AW.region ?_
        | refine AL.det (AOp.load_at rfl rfl (by kernel_rfl)) rfl rfl rfl ?_
        | refine AL.det (AOp.field_at rfl rfl (by kernel_rfl) rfl) rfl rfl rfl ?_
        | refine AL.det (AOp.len rfl rfl (by kernel_rfl)) rfl rfl rfl ?_
        | refine AL.det (AOp.field_ref rfl (by kernel_rfl)) rfl rfl rfl ?_
        | refine AL.guard_do rfl rfl rfl rfl ?_
        | refine AL.guard_skip rfl rfl rfl rfl rfl ?_
        | refine AW.cond_true rfl ?_
        | refine AW.cond_false rfl ?_
        | refine AW.block ?_
        | refine AW.endblk ?_
        | refine AW.skip ?_
        | refine AW.exit rfl ?_
        | refine AW.label ?_
        | refine AL.det (AOp.add rfl rfl (by omega)) rfl rfl rfl ?_
        | refine AL.det (AOp.sub rfl rfl (by omega)) rfl rfl rfl ?_
        | refine AL.det (AOp.max2 rfl rfl) rfl rfl rfl ?_
        | refine AL.det (AOp.min2 rfl rfl) rfl rfl rfl ?_
        | refine AL.det (AOp.bool_eq (by kernel_rfl) rfl rfl) rfl rfl rfl ?_
        | refine AL.det (AOp.bool_ne (by kernel_rfl) rfl rfl) rfl rfl rfl ?_
        | refine AL.det (AOp.build (by kernel_rfl) rfl rfl rfl) rfl rfl rfl ?_)
      exact AW.again_keep (xs.length - (k + 1)) [0, 1, 7, 8] (by omega) ⟨k + 1, hlt, rfl, rfl, rfl, hp⟩
  · have hge : k = xs.length := by
      have : ¬ k < xs.length := by simpa using hb
      omega
    subst hge
    repeat (first
      | refine AL.ev rfl rfl rfl rfl ?_
      | refine AW.seq ?_
      | refine AL.nil ?_
      | refine AW.region ?_
      | refine AL.det (AOp.load_at rfl rfl (by kernel_rfl)) rfl rfl rfl ?_
      | refine AL.det (AOp.field_at rfl rfl (by kernel_rfl) rfl) rfl rfl rfl ?_
      | refine AL.det (AOp.len rfl rfl (by kernel_rfl)) rfl rfl rfl ?_
      | refine AL.det (AOp.field_ref rfl (by kernel_rfl)) rfl rfl rfl ?_
      | refine AL.guard_do rfl rfl rfl rfl ?_
      | refine AL.guard_skip rfl rfl rfl rfl rfl ?_
      | refine AW.cond_true rfl ?_
      | refine AW.cond_false rfl ?_
      | refine AW.block ?_
      | refine AW.endblk ?_
      | refine AW.skip ?_
      | refine AW.exit rfl ?_
      | refine AW.label ?_
      | refine AL.det (AOp.add rfl rfl (by omega)) rfl rfl rfl ?_
      | refine AL.det (AOp.sub rfl rfl (by omega)) rfl rfl rfl ?_
      | refine AL.det (AOp.max2 rfl rfl) rfl rfl rfl ?_
      | refine AL.det (AOp.min2 rfl rfl) rfl rfl rfl ?_
      | refine AL.det (AOp.bool_eq (by kernel_rfl) rfl rfl) rfl rfl rfl ?_
      | refine AL.det (AOp.bool_ne (by kernel_rfl) rfl rfl) rfl rfl rfl ?_
      | refine AL.det (AOp.build (by kernel_rfl) rfl rfl rfl) rfl rfl rfl ?_)
    refine AW.retv rfl ⟨?_, rfl⟩
    rw [hp]; simp [idxFrom]; rfl

theorem ContainsFunc_Rel (xs : List GRel) (hl : xs.length ≤ 4611686018427387904) (fid : FuncId) (caps : List AV) (p : GRel → Bool) (hf : ∀ x ∈ xs, Tri Try.prog fid (x.av :: caps) [] (D (.bool (p x)) [])) :
    Tri Try.prog 40 [.sl (xs.map GRel.av), .fn fid caps] [] (D (.bool (xs.any p)) []) := by
  have hc := IndexFunc_Rel xs hl fid caps p hf
  refine Tri.enter 9 Try.func40 rfl rfl rfl rfl fun Fr w0 => ?_
  repeat (first
    | refine AL.det (AOp.call rfl rfl hc) rfl rfl rfl ?_
    | refine AL.ev rfl rfl rfl rfl ?_
    | refine AW.seq ?_
    | refine AL.nil ?_
    | refine AW.region ?_
    | refine AL.det (AOp.load_at rfl rfl (by kernel_rfl)) rfl rfl rfl ?_
    | refine AL.det (AOp.field_at rfl rfl (by kernel_rfl) rfl) rfl rfl rfl ?_
    | refine AL.det (AOp.len rfl rfl (by kernel_rfl)) rfl rfl rfl ?_
    | refine AL.det (AOp.field_ref rfl (by kernel_rfl)) rfl rfl rfl ?_
    | refine AL.guard_do rfl rfl rfl rfl ?_
    | refine AL.guard_skip rfl rfl rfl rfl rfl ?_
    | refine AW.cond_true rfl ?_
    | refine AW.cond_false rfl ?_
    | refine AW.block ?_
    | refine AW.endblk ?_
    | refine AW.skip ?_
    | refine AW.exit rfl ?_
    | refine AW.label ?_
    | refine AL.det (AOp.add rfl rfl (by omega)) rfl rfl rfl ?_
    | refine AL.det (AOp.sub rfl rfl (by omega)) rfl rfl rfl ?_
    | refine AL.det (AOp.max2 rfl rfl) rfl rfl rfl ?_
    | refine AL.det (AOp.min2 rfl rfl) rfl rfl rfl ?_
    | refine AL.det (AOp.bool_eq (by kernel_rfl) rfl rfl) rfl rfl rfl ?_
    | refine AL.det (AOp.bool_ne (by kernel_rfl) rfl rfl) rfl rfl rfl ?_
    | refine AL.det (AOp.build (by kernel_rfl) rfl rfl rfl) rfl rfl rfl ?_)
  refine AW.retv rfl ⟨?_, rfl⟩
  have := idxFrom_lt (p := p) xs 0
  have h2 : decide (idxFrom p xs 0 ≥ 0) = xs.any p := by rw [Bool.eq_iff_iff, decide_eq_true_iff, this]
  rw [h2]

end Go.Proofs.Ytdedkpfbfklgbaa
