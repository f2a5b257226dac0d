/- Contracts: lists of numbers put one behind the other. -/
import Derived.Test.YtdedkpfbfklgbaaC37
namespace Go.Proofs.Ytdedkpfbfklgbaa
open Go.RowKit Go.SX
set_option maxRecDepth 100000
set_option maxHeartbeats 4000000
set_option linter.unusedVariables false
set_option linter.unusedSimpArgs false

theorem flat_take {α : Type} {ls : List (List α)} {i : Nat} {x : List α} (h : ls[i]? = some x) : (ls.take (i + 1)).flatten = (ls.take i).flatten ++ x := by
  rw [List.take_add_one, h]; simp
theorem flat_le {α : Type} (ls : List (List α)) (i : Nat) : (ls.take i).flatten.length ≤ ls.flatten.length := by
  have h : ls.flatten = (ls.take i).flatten ++ (ls.drop i).flatten := by rw [← List.flatten_append, List.take_append_drop]
  rw [h, List.length_append]; omega
theorem slices_Concat (ls : List (List Int)) (hl : ls.length ≤ 4611686018427387904) (h0 : 0 < ls.flatten.length) (hn : ls.flatten.length ≤ 2000000) : Tri Try.prog 66 [.sl (ls.map ints)] [] (D (ints ls.flatten) []) := by
  have hG := slices_Grow ls.flatten.length h0 hn
  refine Tri.enter 36 Try.func66 rfl rfl rfl rfl fun Fr w0 => ?_
  repeat' (first
    | refine AW.seq ?_
    | (refine AW.region_at 0 ?_ <;> refine AL.ev rfl rfl rfl rfl ?_ <;> refine AL.nil ?_)
    | (refine AW.region_at 1 ?_ <;> refine AL.ev rfl rfl rfl rfl ?_ <;> refine AL.nil ?_)
    | (refine AW.region_at 2 ?_ <;> refine AL.ev rfl rfl rfl rfl ?_ <;> refine AL.det (AOp.len rfl rfl (by kernel_rfl)) rfl rfl rfl ?_ <;> refine AL.ev rfl rfl rfl rfl ?_ <;> refine AL.nil ?_)
    | refine AW.cond_true rfl ?_
    | refine AW.cond_false rfl ?_
    | refine AW.block ?_
    | refine AW.endblk ?_
    | refine AW.skip ?_
    | refine AW.exit rfl ?_
    | refine AW.label ?_
    | refine AW.cond rfl (fun hb => ?_) (fun hb => ?_))
  refine AW.prune [0, 3, 9, 10, 11] (AW.loop (fun m af h => ∃ i : Nat, i ≤ ls.length ∧ m = ls.length - i ∧ af = [(0, .sl (ls.map ints)), (3, .int .i64 ((ls.take i).flatten.length : Nat)), (9, .sl (ls.map ints)), (10, .int .i64 (ls.map ints).length), (11, .int .i64 i)] ∧ h = []) ls.length ⟨0, Nat.zero_le _, rfl, rfl, rfl⟩ ?_)
  rintro m af h ⟨i, hi, rfl, rfl, rfl⟩
  refine AW.seq ?_
  have hfl := flat_le ls i
  by_cases hlt : i < ls.length
  · obtain ⟨x, hx⟩ := get_lt hlt
    have hx' : (ls.map ints)[((i : Nat) : Int).toNat]? = some (ints x) := map_get hx
    have hf := flat_take hx
    have hfl2 := flat_le ls (i + 1)
    have hlx : ((x.map iav).length : Int) = x.length := by simp
    rw [hf, List.length_append] at hfl2
    repeat' (first
      | refine AW.seq ?_
      | (refine AW.region_at 3 ?_ <;> (first | refine AL.ev rfl rfl rfl rfl ?_ | refine AL.det (AOp.add rfl rfl (by omega)) rfl rfl rfl ?_ | refine AL.det (AOp.sub rfl rfl (by omega)) rfl rfl rfl ?_ | refine AL.det (AOp.bool_eq (by kernel_rfl) rfl rfl) rfl rfl rfl ?_ | refine AL.det (AOp.bool_ne (by kernel_rfl) rfl rfl) rfl rfl rfl ?_) <;> refine AL.nil ?_)
      | (refine AW.region_at 4 ?_ <;> refine AL.det (AOp.index_sl rfl rfl (by omega) hx' (by kernel_rfl) rfl) rfl rfl rfl ?_ <;> refine AL.det (AOp.load_at rfl rfl (by kernel_rfl)) rfl rfl rfl ?_ <;> refine AL.ev rfl rfl rfl rfl ?_ <;> refine AL.nil ?_)
      | (refine AW.region_at 5 ?_ <;> refine AL.ev rfl rfl rfl rfl ?_ <;> refine AL.ev rfl rfl rfl rfl ?_ <;> refine AL.det (AOp.len rfl rfl (by kernel_rfl)) rfl rfl rfl ?_ <;> (first | refine AL.ev rfl rfl rfl rfl ?_ | refine AL.det (AOp.add rfl rfl (by omega)) rfl rfl rfl ?_ | refine AL.det (AOp.sub rfl rfl (by omega)) rfl rfl rfl ?_ | refine AL.det (AOp.bool_eq (by kernel_rfl) rfl rfl) rfl rfl rfl ?_ | refine AL.det (AOp.bool_ne (by kernel_rfl) rfl rfl) rfl rfl rfl ?_) <;> refine AL.ev rfl rfl rfl rfl ?_ <;> refine AL.nil ?_)
      | (refine AW.region_at 6 ?_ <;> refine AL.ev rfl rfl rfl rfl ?_ <;> (first | refine AL.ev rfl rfl rfl rfl ?_ | refine AL.det (AOp.add rfl rfl (by omega)) rfl rfl rfl ?_ | refine AL.det (AOp.sub rfl rfl (by omega)) rfl rfl rfl ?_ | refine AL.det (AOp.bool_eq (by kernel_rfl) rfl rfl) rfl rfl rfl ?_ | refine AL.det (AOp.bool_ne (by kernel_rfl) rfl rfl) rfl rfl rfl ?_) <;> refine AL.nil ?_)
      | (refine AW.region_at 8 ?_ <;> (first | refine AL.ev rfl rfl rfl rfl ?_ | refine AL.det (AOp.add rfl rfl (by omega)) rfl rfl rfl ?_ | refine AL.det (AOp.sub rfl rfl (by omega)) rfl rfl rfl ?_ | refine AL.det (AOp.bool_eq (by kernel_rfl) rfl rfl) rfl rfl rfl ?_ | refine AL.det (AOp.bool_ne (by kernel_rfl) rfl rfl) rfl rfl rfl ?_) <;> refine AL.ev rfl rfl rfl rfl ?_ <;> refine AL.nil ?_)
      | refine AW.cond_true rfl ?_
      | refine AW.cond_false rfl ?_
      | refine AW.block ?_
      | refine AW.endblk ?_
      | refine AW.skip ?_
      | refine AW.exit rfl ?_
      | refine AW.label ?_
      | refine AW.cond rfl (fun hb => ?_) (fun hb => ?_))
    all_goals first
      | (exfalso; simp only [decide_eq_true_eq, decide_eq_false_iff_not, List.length_map] at *; omega)
      | (refine AW.again_keep (ls.length - (i + 1)) [0, 3, 9, 10, 11] (by omega) ⟨i + 1, hlt, rfl, ?_, rfl⟩; rw [hf, List.length_append]; show [_, (3, AV.int .i64 (((ls.take i).flatten.length : Int) + ((x.map iav).length : Int))), _, _, _] = _; rw [hlx]; rfl)
  · have hi2 : i = ls.length := by omega
    subst hi2
    rw [List.take_length]
    repeat' (first
      | refine AW.seq ?_
      | (refine AW.region_at 3 ?_ <;> (first | refine AL.ev rfl rfl rfl rfl ?_ | refine AL.det (AOp.add rfl rfl (by omega)) rfl rfl rfl ?_ | refine AL.det (AOp.sub rfl rfl (by omega)) rfl rfl rfl ?_ | refine AL.det (AOp.bool_eq (by kernel_rfl) rfl rfl) rfl rfl rfl ?_ | refine AL.det (AOp.bool_ne (by kernel_rfl) rfl rfl) rfl rfl rfl ?_) <;> refine AL.nil ?_)
      | refine AW.cond_true rfl ?_
      | refine AW.cond_false rfl ?_
      | refine AW.block ?_
      | refine AW.endblk ?_
      | refine AW.skip ?_
      | refine AW.exit rfl ?_
      | refine AW.label ?_
      | refine AW.cond rfl (fun hb => ?_) (fun hb => ?_))
    all_goals try (exfalso; simp only [decide_eq_true_eq, decide_eq_false_iff_not, List.length_map] at *; omega)
    refine AW.region_at 9 ?_
    refine AL.ev rfl rfl rfl rfl ?_
    refine AL.step rfl rfl (AOp.callV (args := [nilS, .int .i64 (ls.flatten.length : Nat)]) rfl (fun S w a hfr => ?_) hG) ?_ ?_
    · have h2 := aeval_rel hfr (x := .tmp 23) rfl
      simp only [RelVs]
      exact ⟨_, _, rfl, by simp [nilS, RelC, Act.eval], by simp [nilS, Shape, Act.eval], _, _, rfl, h2.1, h2.2, rfl⟩
    · rintro _ _ ⟨b, k, hk, e, rfl⟩
      injection e with e
      subst e
      refine AL.ev rfl rfl rfl rfl ?_
      refine AL.nil ?_
      repeat' (first
        | refine AW.seq ?_
        | (refine AW.region_at 10 ?_ <;> refine AL.ev rfl rfl rfl rfl ?_ <;> refine AL.det (AOp.len rfl rfl (by kernel_rfl)) rfl rfl rfl ?_ <;> refine AL.ev rfl rfl rfl rfl ?_ <;> refine AL.nil ?_)
        | refine AW.cond_true rfl ?_
        | refine AW.cond_false rfl ?_
        | refine AW.block ?_
        | refine AW.endblk ?_
        | refine AW.skip ?_
        | refine AW.exit rfl ?_
        | refine AW.label ?_
        | refine AW.cond rfl (fun hb => ?_) (fun hb => ?_))
      refine AW.prune [6, 25, 26, 27] (AW.loop (fun m af h => ∃ i : Nat, i ≤ ls.length ∧ m = ls.length - i ∧ af = [(6, .osl b (ls.take i).flatten.length k), (25, .sl (ls.map ints)), (26, .int .i64 (ls.map ints).length), (27, .int .i64 i)] ∧ h = [.row b (((ls.take i).flatten.map iav) ++ List.replicate (k - (ls.take i).flatten.length) (.int .i64 0))]) ls.length ⟨0, Nat.zero_le _, rfl, rfl, rfl⟩ ?_)
      rintro m af h ⟨i, hi, rfl, rfl, rfl⟩
      refine AW.seq ?_
      have hfl := flat_le ls i
      by_cases hlt : i < ls.length
      · obtain ⟨x, hx⟩ := get_lt hlt
        have hx' : (ls.map ints)[((i : Nat) : Int).toNat]? = some (ints x) := map_get hx
        have hf := flat_take hx
        have hfl2 := flat_le ls (i + 1)
        rw [hf, List.length_append] at hfl2
        repeat' (first
          | refine AW.seq ?_
          | (refine AW.region_at 11 ?_ <;> (first | refine AL.ev rfl rfl rfl rfl ?_ | refine AL.det (AOp.add rfl rfl (by omega)) rfl rfl rfl ?_ | refine AL.det (AOp.sub rfl rfl (by omega)) rfl rfl rfl ?_ | refine AL.det (AOp.bool_eq (by kernel_rfl) rfl rfl) rfl rfl rfl ?_ | refine AL.det (AOp.bool_ne (by kernel_rfl) rfl rfl) rfl rfl rfl ?_) <;> refine AL.nil ?_)
          | (refine AW.region_at 12 ?_ <;> refine AL.det (AOp.index_sl rfl rfl (by omega) hx' (by kernel_rfl) rfl) rfl rfl rfl ?_ <;> refine AL.det (AOp.load_at rfl rfl (by kernel_rfl)) rfl rfl rfl ?_ <;> refine AL.ev rfl rfl rfl rfl ?_ <;> refine AL.nil ?_)
          | (refine AW.region_at 13 ?_ <;> refine AL.ev rfl rfl rfl rfl ?_ <;> refine AL.ev rfl rfl rfl rfl ?_ <;> refine AL.det (AOp.append_osl (i := 0) (e := 3) (c0 := .int .i64 0) (bytes := 8) rfl rfl (by rw [List.length_append, List.length_map, List.length_replicate]; omega) rfl rfl (by kernel_rfl) (by kernel_rfl) (all_map fun _ => rfl) (ok_map fun _ => rfl) (by rw [List.length_map]; omega)) rfl rfl rfl ?_ <;> refine AL.ev rfl rfl rfl rfl ?_ <;> refine AL.nil ?_)
          | (refine AW.region_at 14 ?_ <;> (first | refine AL.ev rfl rfl rfl rfl ?_ | refine AL.det (AOp.add rfl rfl (by omega)) rfl rfl rfl ?_ | refine AL.det (AOp.sub rfl rfl (by omega)) rfl rfl rfl ?_ | refine AL.det (AOp.bool_eq (by kernel_rfl) rfl rfl) rfl rfl rfl ?_ | refine AL.det (AOp.bool_ne (by kernel_rfl) rfl rfl) rfl rfl rfl ?_) <;> refine AL.ev rfl rfl rfl rfl ?_ <;> refine AL.nil ?_)
          | refine AW.cond_true rfl ?_
          | refine AW.cond_false rfl ?_
          | refine AW.block ?_
          | refine AW.endblk ?_
          | refine AW.skip ?_
          | refine AW.exit rfl ?_
          | refine AW.label ?_
          | refine AW.cond rfl (fun hb => ?_) (fun hb => ?_))
        all_goals try (exfalso; simp only [decide_eq_true_eq, decide_eq_false_iff_not, List.length_map] at *; omega)
        refine AW.again_keep (ls.length - (i + 1)) [6, 25, 26, 27] (by omega) ⟨i + 1, hlt, rfl, ?_, ?_⟩
        · rw [hf, List.length_append]
          show [(6, AV.osl b ((ls.take i).flatten.length + (x.map iav).length) k), _, _, _] = _
          rw [List.length_map]; rfl
        · show [Own.row b (((((ls.take i).flatten.map iav) ++ List.replicate (k - (ls.take i).flatten.length) (AV.int .i64 0)).take (ls.take i).flatten.length) ++ (x.map iav) ++ ((((ls.take i).flatten.map iav) ++ List.replicate (k - (ls.take i).flatten.length) (AV.int .i64 0)).drop ((ls.take i).flatten.length + (x.map iav).length)))] = _
          rw [hf]
          congr 2
          have e1 : ((ls.take i).flatten.map iav).length = (ls.take i).flatten.length := List.length_map _
          rw [List.take_append_of_le_length (by omega), List.take_of_length_le (by omega), List.map_append, List.append_assoc, List.append_assoc]
          congr 2
          rw [List.drop_append, List.drop_eq_nil_of_le (by rw [List.length_map]; omega), List.nil_append, List.drop_replicate]
          congr 1
          simp only [List.length_append, List.length_map]
          omega
      · have hi3 : i = ls.length := by omega
        subst hi3
        rw [List.take_length]
        repeat' (first
          | refine AW.seq ?_
          | (refine AW.region_at 11 ?_ <;> (first | refine AL.ev rfl rfl rfl rfl ?_ | refine AL.det (AOp.add rfl rfl (by omega)) rfl rfl rfl ?_ | refine AL.det (AOp.sub rfl rfl (by omega)) rfl rfl rfl ?_ | refine AL.det (AOp.bool_eq (by kernel_rfl) rfl rfl) rfl rfl rfl ?_ | refine AL.det (AOp.bool_ne (by kernel_rfl) rfl rfl) rfl rfl rfl ?_) <;> refine AL.nil ?_)
          | refine AW.cond_true rfl ?_
          | refine AW.cond_false rfl ?_
          | refine AW.block ?_
          | refine AW.endblk ?_
          | refine AW.skip ?_
          | refine AW.exit rfl ?_
          | refine AW.label ?_
          | refine AW.cond rfl (fun hb => ?_) (fun hb => ?_))
        all_goals try (exfalso; simp only [decide_eq_true_eq, decide_eq_false_iff_not, List.length_map] at *; omega)
        refine AW.freeze_pre 0 6 rfl rfl (by rw [List.length_append, List.length_map, List.length_replicate]; omega) (fun x hx => ?_) ?_
        · rcases List.mem_append.1 hx with h | h
          · exact all_map (n := 1) (fun _ => rfl) x h
          · rw [(List.mem_replicate.1 h).2]; rfl
        repeat' (first
          | refine AW.seq ?_
          | (refine AW.region_at 15 ?_ <;> refine AL.ev rfl rfl rfl rfl ?_ <;> refine AL.ev rfl rfl rfl rfl ?_ <;> refine AL.nil ?_)
          | refine AW.cond_true rfl ?_
          | refine AW.cond_false rfl ?_
          | refine AW.block ?_
          | refine AW.endblk ?_
          | refine AW.skip ?_
          | refine AW.exit rfl ?_
          | refine AW.label ?_
          | refine AW.cond rfl (fun hb => ?_) (fun hb => ?_))
        first | refine AW.donev rfl ⟨?_, rfl⟩ | refine AW.retv rfl ⟨?_, rfl⟩
        show AEnd.ret (.sl ((ls.flatten.map iav ++ List.replicate (k - ls.flatten.length) (AV.int .i64 0)).take ls.flatten.length)) = _
        rw [List.take_append_of_le_length (by rw [List.length_map]; omega), List.take_of_length_le (by rw [List.length_map]; omega)]
        rfl
    · rintro _ _ ⟨b, k, hk, e, _⟩; cases e
def raisedP (p : List Int) (k : Nat) : List Int := if p = [] then [] else List.replicate k 0 ++ p
theorem code_raised (p : List Int) (k : Nat) (hk : k ≤ 12) (hl : p.length ≤ 1000000) : Tri Try.prog 31 [ints p, .int .i64 k] [] (D (ints (raisedP p k)) []) := by
  by_cases h : p = []
  · subst h
    refine Tri.enter 13 Try.func31 rfl rfl rfl rfl fun Fr w0 => ?_
    repeat' (first
      | refine AW.seq ?_
      | (refine AW.region_at 0 ?_ <;> refine AL.ev rfl rfl rfl rfl ?_ <;> refine AL.nil ?_)
      | (refine AW.region_at 1 ?_ <;> refine AL.ev rfl rfl rfl rfl ?_ <;> refine AL.det (AOp.len rfl rfl (by kernel_rfl)) rfl rfl rfl ?_ <;> (first | refine AL.ev rfl rfl rfl rfl ?_ | refine AL.det (AOp.add rfl rfl (by omega)) rfl rfl rfl ?_ | refine AL.det (AOp.sub rfl rfl (by omega)) rfl rfl rfl ?_ | refine AL.det (AOp.bool_eq (by kernel_rfl) rfl rfl) rfl rfl rfl ?_ | refine AL.det (AOp.bool_ne (by kernel_rfl) rfl rfl) rfl rfl rfl ?_) <;> refine AL.nil ?_)
      | (refine AW.region_at 2 ?_ <;> refine AL.ev rfl rfl rfl rfl ?_ <;> refine AL.nil ?_)
      | refine AW.cond_true rfl ?_
      | refine AW.cond_false rfl ?_
      | refine AW.block ?_
      | refine AW.endblk ?_
      | refine AW.skip ?_
      | refine AW.exit rfl ?_
      | refine AW.label ?_
      | refine AW.cond rfl (fun hb => ?_) (fun hb => ?_))
    all_goals first
      | exact AW.retv rfl ⟨rfl, rfl⟩
      | (exfalso; simp at *; done)
  · have hpl : 0 < p.length := List.length_pos_iff.2 h
    have hC := slices_Concat [List.replicate k 0, p] (by simp) (by simp; omega) (by simp; omega)
    have hf : ([List.replicate k (0 : Int), p] : List (List Int)).flatten = List.replicate k 0 ++ p := by simp
    rw [hf] at hC
    rw [raisedP, if_neg h]
    have hlen : ((p.map iav).length : Int) = p.length := by simp
    refine Tri.enter 13 Try.func31 rfl rfl rfl rfl fun Fr w0 => ?_
    repeat' (first
      | refine AW.seq ?_
      | (refine AW.region_at 0 ?_ <;> refine AL.ev rfl rfl rfl rfl ?_ <;> refine AL.nil ?_)
      | (refine AW.region_at 1 ?_ <;> refine AL.ev rfl rfl rfl rfl ?_ <;> refine AL.det (AOp.len rfl rfl (by kernel_rfl)) rfl rfl rfl ?_ <;> (first | refine AL.ev rfl rfl rfl rfl ?_ | refine AL.det (AOp.add rfl rfl (by omega)) rfl rfl rfl ?_ | refine AL.det (AOp.sub rfl rfl (by omega)) rfl rfl rfl ?_ | refine AL.det (AOp.bool_eq (by kernel_rfl) rfl rfl) rfl rfl rfl ?_ | refine AL.det (AOp.bool_ne (by kernel_rfl) rfl rfl) rfl rfl rfl ?_) <;> refine AL.nil ?_)
      | refine AW.cond_true rfl ?_
      | refine AW.cond_false rfl ?_
      | refine AW.block ?_
      | refine AW.endblk ?_
      | refine AW.skip ?_
      | refine AW.exit rfl ?_
      | refine AW.label ?_
      | refine AW.cond rfl (fun hb => ?_) (fun hb => ?_))
    · exfalso; simp only [beq_iff_eq] at hb; omega
    refine AW.region_at 3 ?_
    refine AL.ev rfl rfl rfl rfl ?_
    refine AL.makeSlice (n := k) (e := 3) (c := .int .i64 0) (z := .int .i64 0) (bytes := 8) rfl rfl (by kernel_rfl) rfl (by omega) (by omega) rfl fun b => ?_
    refine AL.freeze_row 0 9 rfl rfl (by simp) (fun x hx => by rw [(List.mem_replicate.1 hx).2]; rfl) ?_
    refine AL.ev rfl rfl rfl rfl ?_
    refine AL.det (AOp.lit (e := 58) (sz := 1) (by kernel_rfl) rfl rfl rfl (by simp [AV.size, ints]) (by decide)) rfl rfl rfl ?_
    have hC' : Tri Try.prog 66 [.sl [.sl (List.replicate k (.int .i64 0)), ints p]] [] (D (ints (List.replicate k 0 ++ p)) []) := by
      have e : ints (List.replicate k 0) = .sl (List.replicate k (.int .i64 0)) := by simp [ints, iav]
      rw [← e]; exact hC
    refine AL.det (AOp.call rfl rfl hC') rfl rfl rfl ?_
    refine AL.ev rfl rfl rfl rfl ?_
    refine AL.nil ?_
    first
      | exact AW.retv rfl ⟨rfl, rfl⟩
      | exact AW.donev rfl ⟨rfl, rfl⟩
end Go.Proofs.Ytdedkpfbfklgbaa
