/- Contracts: Run. -/
import Derived.Test.YtdedkpfbfklgbaaC31
namespace Go.Proofs.Ytdedkpfbfklgbaa
open Go.RowKit Go.SX
set_option maxRecDepth 100000
set_option maxHeartbeats 4000000
set_option linter.unusedVariables false
set_option linter.unusedSimpArgs false

theorem code_Run (c : GCode) (s : GStr) (G : List Bool) (fuel : Int) (hc : c.Ok) (hs : s.Ok) (hG : G.length ≤ 4611686018427387904) (hk : (checkedP c).bad = false → ChkOk c) :
    Tri Try.prog 10 [c.av, s.av, bools G, .int .i64 fuel] [] (RunPost c s G fuel) := by
  have hv := shape_Valid s hs
  refine Tri.enterD 179 Try.func10 rfl rfl rfl rfl fun Fr w0 => ?_
  repeat' (first
    | refine AW.seq ?_
    | (refine AW.region_at 0 ?_ <;> refine AL.det (AOp.box_ro rfl rfl) rfl rfl rfl ?_ <;> refine AL.det (AOp.box_ro rfl rfl) rfl rfl rfl ?_ <;> (first | refine AL.alloc_z (t := 4) (.bool false) (by kernel_rfl) rfl rfl fun r => ?_ | refine AL.alloc_z (t := 3) (.int .i64 0) (by kernel_rfl) rfl rfl fun r => ?_ | refine AL.alloc_z (t := 34) (.int .i64 0) (by kernel_rfl) rfl rfl fun r => ?_) <;> (first | refine AL.alloc_z (t := 4) (.bool false) (by kernel_rfl) rfl rfl fun r => ?_ | refine AL.alloc_z (t := 3) (.int .i64 0) (by kernel_rfl) rfl rfl fun r => ?_ | refine AL.alloc_z (t := 34) (.int .i64 0) (by kernel_rfl) rfl rfl fun r => ?_) <;> (first | refine AL.alloc_z (t := 4) (.bool false) (by kernel_rfl) rfl rfl fun r => ?_ | refine AL.alloc_z (t := 3) (.int .i64 0) (by kernel_rfl) rfl rfl fun r => ?_ | refine AL.alloc_z (t := 34) (.int .i64 0) (by kernel_rfl) rfl rfl fun r => ?_) <;> (first | refine AL.alloc_z (t := 4) (.bool false) (by kernel_rfl) rfl rfl fun r => ?_ | refine AL.alloc_z (t := 3) (.int .i64 0) (by kernel_rfl) rfl rfl fun r => ?_ | refine AL.alloc_z (t := 34) (.int .i64 0) (by kernel_rfl) rfl rfl fun r => ?_) <;> refine AL.nil ?_)
    | refine AW.cond_true rfl ?_
    | refine AW.cond_false rfl ?_
    | refine AW.block ?_
    | refine AW.endblk ?_
    | refine AW.skip ?_
    | refine AW.exit rfl ?_
    | refine AW.label ?_
    | refine AW.cond rfl (fun hb => ?_) (fun hb => ?_))
  rename_i r1 r2 r3
  refine AW.perm (b := resAH r1 r2 r3 r false 0 0 0) (List.reverse_perm (resAH r1 r2 r3 r false 0 0 0)) ?_
  have hchk := (code_checked c hc).behind (resAH r1 r2 r3 r false 0 0 0)
  repeat' (first
    | refine AW.seq ?_
    | (refine AW.region_at 1 ?_ <;> refine AL.det (AOp.load_at rfl rfl (by kernel_rfl)) rfl rfl rfl ?_ <;> (refine AL.callQ rfl rfl hchk rfl ?_ ?_; rotate_left; rintro _ _ ⟨_, ⟨_, _, _, e, _⟩, _⟩; cases e; rintro _ _ ⟨_, ⟨b, ba, bs, e, rfl⟩, rfl⟩; injection e with e; subst e) <;> refine AL.ev rfl rfl rfl rfl ?_ <;> refine AL.nil ?_)
    | refine AW.cond_true rfl ?_
    | refine AW.cond_false rfl ?_
    | refine AW.block ?_
    | refine AW.endblk ?_
    | refine AW.skip ?_
    | refine AW.exit rfl ?_
    | refine AW.label ?_
    | refine AW.cond rfl (fun hb => ?_) (fun hb => ?_))
  generalize hgA : (arrsP c.Arrays (chk0 c) ⟨[], 0⟩).2 = gA
  refine AW.prune [2, 3, 4, 5, 8, 9, 10, 11, 12] ?_
  repeat' (first
    | refine AW.seq ?_
    | (refine AW.region_at 2 ?_ <;> refine AL.ev rfl rfl rfl rfl ?_ <;> refine AL.ev rfl rfl rfl rfl ?_ <;> (first | refine AL.det (AOp.field_at rfl rfl (by kernel_rfl) rfl) rfl rfl rfl ?_ | refine AL.det (AOp.field_ref (off := 7) rfl (by kernel_rfl)) rfl rfl rfl ?_) <;> (first | refine AL.det (AOp.load_at rfl rfl (by kernel_rfl)) rfl rfl rfl ?_ | refine AL.det (AOp.load_leaf 0 rfl rfl rfl rfl (by kernel_rfl)) rfl rfl rfl ?_ | refine AL.det (AOp.load_all 0 rfl rfl rfl (by kernel_rfl)) rfl rfl rfl ?_ | refine AL.det (AOp.load_leaf 1 rfl rfl rfl rfl (by kernel_rfl)) rfl rfl rfl ?_ | refine AL.det (AOp.load_all 1 rfl rfl rfl (by kernel_rfl)) rfl rfl rfl ?_ | refine AL.det (AOp.load_leaf 2 rfl rfl rfl rfl (by kernel_rfl)) rfl rfl rfl ?_ | refine AL.det (AOp.load_all 2 rfl rfl rfl (by kernel_rfl)) rfl rfl rfl ?_ | refine AL.det (AOp.load_leaf 3 rfl rfl rfl rfl (by kernel_rfl)) rfl rfl rfl ?_ | refine AL.det (AOp.load_all 3 rfl rfl rfl (by kernel_rfl)) rfl rfl rfl ?_ | refine AL.det (AOp.load_leaf 4 rfl rfl rfl rfl (by kernel_rfl)) rfl rfl rfl ?_ | refine AL.det (AOp.load_all 4 rfl rfl rfl (by kernel_rfl)) rfl rfl rfl ?_ | refine AL.det (AOp.load_leaf 5 rfl rfl rfl rfl (by kernel_rfl)) rfl rfl rfl ?_ | refine AL.det (AOp.load_all 5 rfl rfl rfl (by kernel_rfl)) rfl rfl rfl ?_ | refine AL.det (AOp.load_leaf 6 rfl rfl rfl rfl (by kernel_rfl)) rfl rfl rfl ?_ | refine AL.det (AOp.load_all 6 rfl rfl rfl (by kernel_rfl)) rfl rfl rfl ?_) <;> refine AL.ev rfl rfl rfl rfl ?_ <;> (first | (refine AL.guard_do rfl rfl rfl rfl ?_; (first | refine AL.det (AOp.load_at rfl rfl (by kernel_rfl)) rfl rfl rfl ?_ | refine AL.det (AOp.load_leaf 0 rfl rfl rfl rfl (by kernel_rfl)) rfl rfl rfl ?_ | refine AL.det (AOp.load_all 0 rfl rfl rfl (by kernel_rfl)) rfl rfl rfl ?_ | refine AL.det (AOp.load_leaf 1 rfl rfl rfl rfl (by kernel_rfl)) rfl rfl rfl ?_ | refine AL.det (AOp.load_all 1 rfl rfl rfl (by kernel_rfl)) rfl rfl rfl ?_ | refine AL.det (AOp.load_leaf 2 rfl rfl rfl rfl (by kernel_rfl)) rfl rfl rfl ?_ | refine AL.det (AOp.load_all 2 rfl rfl rfl (by kernel_rfl)) rfl rfl rfl ?_ | refine AL.det (AOp.load_leaf 3 rfl rfl rfl rfl (by kernel_rfl)) rfl rfl rfl ?_ | refine AL.det (AOp.load_all 3 rfl rfl rfl (by kernel_rfl)) rfl rfl rfl ?_ | refine AL.det (AOp.load_leaf 4 rfl rfl rfl rfl (by kernel_rfl)) rfl rfl rfl ?_ | refine AL.det (AOp.load_all 4 rfl rfl rfl (by kernel_rfl)) rfl rfl rfl ?_ | refine AL.det (AOp.load_leaf 5 rfl rfl rfl rfl (by kernel_rfl)) rfl rfl rfl ?_ | refine AL.det (AOp.load_all 5 rfl rfl rfl (by kernel_rfl)) rfl rfl rfl ?_ | refine AL.det (AOp.load_leaf 6 rfl rfl rfl rfl (by kernel_rfl)) rfl rfl rfl ?_ | refine AL.det (AOp.load_all 6 rfl rfl rfl (by kernel_rfl)) rfl rfl rfl ?_)) | refine AL.guard_skip rfl rfl rfl rfl rfl ?_ | refine AL.guard_undef rfl rfl rfl rfl ?_ | (refine AL.guard_split rfl rfl rfl (fun hb => ?_) (fun hb => ?_) <;> first | (refine AL.guard_do rfl rfl rfl rfl ?_; (first | refine AL.det (AOp.load_at rfl rfl (by kernel_rfl)) rfl rfl rfl ?_ | refine AL.det (AOp.load_leaf 0 rfl rfl rfl rfl (by kernel_rfl)) rfl rfl rfl ?_ | refine AL.det (AOp.load_all 0 rfl rfl rfl (by kernel_rfl)) rfl rfl rfl ?_ | refine AL.det (AOp.load_leaf 1 rfl rfl rfl rfl (by kernel_rfl)) rfl rfl rfl ?_ | refine AL.det (AOp.load_all 1 rfl rfl rfl (by kernel_rfl)) rfl rfl rfl ?_ | refine AL.det (AOp.load_leaf 2 rfl rfl rfl rfl (by kernel_rfl)) rfl rfl rfl ?_ | refine AL.det (AOp.load_all 2 rfl rfl rfl (by kernel_rfl)) rfl rfl rfl ?_ | refine AL.det (AOp.load_leaf 3 rfl rfl rfl rfl (by kernel_rfl)) rfl rfl rfl ?_ | refine AL.det (AOp.load_all 3 rfl rfl rfl (by kernel_rfl)) rfl rfl rfl ?_ | refine AL.det (AOp.load_leaf 4 rfl rfl rfl rfl (by kernel_rfl)) rfl rfl rfl ?_ | refine AL.det (AOp.load_all 4 rfl rfl rfl (by kernel_rfl)) rfl rfl rfl ?_ | refine AL.det (AOp.load_leaf 5 rfl rfl rfl rfl (by kernel_rfl)) rfl rfl rfl ?_ | refine AL.det (AOp.load_all 5 rfl rfl rfl (by kernel_rfl)) rfl rfl rfl ?_ | refine AL.det (AOp.load_leaf 6 rfl rfl rfl rfl (by kernel_rfl)) rfl rfl rfl ?_ | refine AL.det (AOp.load_all 6 rfl rfl rfl (by kernel_rfl)) rfl rfl rfl ?_)) | refine AL.guard_skip rfl rfl rfl rfl rfl ?_)) <;> (first | (refine AL.guard_do rfl rfl rfl rfl ?_; refine AL.det (AOp.call rfl rfl (hv.pure _)) rfl rfl rfl ?_) | refine AL.guard_skip rfl rfl rfl rfl rfl ?_ | refine AL.guard_undef rfl rfl rfl rfl ?_ | (refine AL.guard_split rfl rfl rfl (fun hb => ?_) (fun hb => ?_) <;> first | (refine AL.guard_do rfl rfl rfl rfl ?_; refine AL.det (AOp.call rfl rfl (hv.pure _)) rfl rfl rfl ?_) | refine AL.guard_skip rfl rfl rfl rfl rfl ?_)) <;> (first | (refine AL.guard_do rfl rfl rfl rfl ?_; refine AL.ev rfl rfl rfl rfl ?_) | refine AL.guard_skip rfl rfl rfl rfl rfl ?_ | refine AL.guard_undef rfl rfl rfl rfl ?_ | (refine AL.guard_split rfl rfl rfl (fun hb => ?_) (fun hb => ?_) <;> first | (refine AL.guard_do rfl rfl rfl rfl ?_; refine AL.ev rfl rfl rfl rfl ?_) | refine AL.guard_skip rfl rfl rfl rfl rfl ?_)) <;> refine AL.ev rfl rfl rfl rfl ?_ <;> refine AL.nil ?_)
    | (refine AW.region_at 3 ?_ <;> (first | refine AL.store_leaf 0 rfl rfl rfl rfl rfl (by kernel_rfl) ?_ | refine AL.store_leaf 1 rfl rfl rfl rfl rfl (by kernel_rfl) ?_ | refine AL.store_leaf 2 rfl rfl rfl rfl rfl (by kernel_rfl) ?_ | refine AL.store_leaf 3 rfl rfl rfl rfl rfl (by kernel_rfl) ?_ | refine AL.store_leaf 4 rfl rfl rfl rfl rfl (by kernel_rfl) ?_ | refine AL.store_leaf 5 rfl rfl rfl rfl rfl (by kernel_rfl) ?_ | refine AL.store_leaf 6 rfl rfl rfl rfl rfl (by kernel_rfl) ?_) <;> (first | refine AL.store_leaf 0 rfl rfl rfl rfl rfl (by kernel_rfl) ?_ | refine AL.store_leaf 1 rfl rfl rfl rfl rfl (by kernel_rfl) ?_ | refine AL.store_leaf 2 rfl rfl rfl rfl rfl (by kernel_rfl) ?_ | refine AL.store_leaf 3 rfl rfl rfl rfl rfl (by kernel_rfl) ?_ | refine AL.store_leaf 4 rfl rfl rfl rfl rfl (by kernel_rfl) ?_ | refine AL.store_leaf 5 rfl rfl rfl rfl rfl (by kernel_rfl) ?_ | refine AL.store_leaf 6 rfl rfl rfl rfl rfl (by kernel_rfl) ?_) <;> (first | refine AL.store_leaf 0 rfl rfl rfl rfl rfl (by kernel_rfl) ?_ | refine AL.store_leaf 1 rfl rfl rfl rfl rfl (by kernel_rfl) ?_ | refine AL.store_leaf 2 rfl rfl rfl rfl rfl (by kernel_rfl) ?_ | refine AL.store_leaf 3 rfl rfl rfl rfl rfl (by kernel_rfl) ?_ | refine AL.store_leaf 4 rfl rfl rfl rfl rfl (by kernel_rfl) ?_ | refine AL.store_leaf 5 rfl rfl rfl rfl rfl (by kernel_rfl) ?_ | refine AL.store_leaf 6 rfl rfl rfl rfl rfl (by kernel_rfl) ?_) <;> (first | refine AL.store_leaf 0 rfl rfl rfl rfl rfl (by kernel_rfl) ?_ | refine AL.store_leaf 1 rfl rfl rfl rfl rfl (by kernel_rfl) ?_ | refine AL.store_leaf 2 rfl rfl rfl rfl rfl (by kernel_rfl) ?_ | refine AL.store_leaf 3 rfl rfl rfl rfl rfl (by kernel_rfl) ?_ | refine AL.store_leaf 4 rfl rfl rfl rfl rfl (by kernel_rfl) ?_ | refine AL.store_leaf 5 rfl rfl rfl rfl rfl (by kernel_rfl) ?_ | refine AL.store_leaf 6 rfl rfl rfl rfl rfl (by kernel_rfl) ?_) <;> refine AL.nil ?_)
    | refine AW.cond_true rfl ?_
    | refine AW.cond_false rfl ?_
    | refine AW.block ?_
    | refine AW.endblk ?_
    | refine AW.skip ?_
    | refine AW.exit rfl ?_
    | refine AW.label ?_
    | refine AW.cond rfl (fun hb => ?_) (fun hb => ?_))
  · exact AW.retD0 (.cell 3 rfl rfl (by kernel_rfl) (.cell 4 rfl rfl (by kernel_rfl) (.cell 5 rfl rfl (by kernel_rfl) (.cell 6 rfl rfl (by kernel_rfl) .nil)))) ⟨_, _, _, _, .form (.inl hb), rfl⟩
  · exact AW.retD0 (.cell 3 rfl rfl (by kernel_rfl) (.cell 4 rfl rfl (by kernel_rfl) (.cell 5 rfl rfl (by kernel_rfl) (.cell 6 rfl rfl (by kernel_rfl) .nil)))) ⟨_, _, _, _, .form (.inr (by simpa using hb)), rfl⟩
  rename_i hbad
  have hval : validStr s = true := by simpa using hb
  clear hb hchk hv
  have hko := hk hbad
  refine AW.prune [2, 3, 4, 5, 8, 9, 10, 11, 12] ?_
  repeat' (first
    | refine AW.seq ?_
    | (refine AW.region_at 4 ?_ <;> refine AL.ev rfl rfl rfl rfl ?_ <;> refine AL.ev rfl rfl rfl rfl ?_ <;> (first | refine AL.det (AOp.field_at rfl rfl (by kernel_rfl) rfl) rfl rfl rfl ?_ | refine AL.det (AOp.field_ref (off := 5) rfl (by kernel_rfl)) rfl rfl rfl ?_) <;> (first | refine AL.det (AOp.load_at rfl rfl (by kernel_rfl)) rfl rfl rfl ?_ | refine AL.det (AOp.load_leaf 0 rfl rfl rfl rfl (by kernel_rfl)) rfl rfl rfl ?_ | refine AL.det (AOp.load_all 0 rfl rfl rfl (by kernel_rfl)) rfl rfl rfl ?_ | refine AL.det (AOp.load_leaf 1 rfl rfl rfl rfl (by kernel_rfl)) rfl rfl rfl ?_ | refine AL.det (AOp.load_all 1 rfl rfl rfl (by kernel_rfl)) rfl rfl rfl ?_ | refine AL.det (AOp.load_leaf 2 rfl rfl rfl rfl (by kernel_rfl)) rfl rfl rfl ?_ | refine AL.det (AOp.load_all 2 rfl rfl rfl (by kernel_rfl)) rfl rfl rfl ?_ | refine AL.det (AOp.load_leaf 3 rfl rfl rfl rfl (by kernel_rfl)) rfl rfl rfl ?_ | refine AL.det (AOp.load_all 3 rfl rfl rfl (by kernel_rfl)) rfl rfl rfl ?_ | refine AL.det (AOp.load_leaf 4 rfl rfl rfl rfl (by kernel_rfl)) rfl rfl rfl ?_ | refine AL.det (AOp.load_all 4 rfl rfl rfl (by kernel_rfl)) rfl rfl rfl ?_ | refine AL.det (AOp.load_leaf 5 rfl rfl rfl rfl (by kernel_rfl)) rfl rfl rfl ?_ | refine AL.det (AOp.load_all 5 rfl rfl rfl (by kernel_rfl)) rfl rfl rfl ?_ | refine AL.det (AOp.load_leaf 6 rfl rfl rfl rfl (by kernel_rfl)) rfl rfl rfl ?_ | refine AL.det (AOp.load_all 6 rfl rfl rfl (by kernel_rfl)) rfl rfl rfl ?_) <;> refine AL.range 2 3 .string rfl rfl (by kernel_rfl) rfl fun it => ?_ <;> refine AL.nil ?_)
    | refine AW.cond_true rfl ?_
    | refine AW.cond_false rfl ?_
    | refine AW.block ?_
    | refine AW.endblk ?_
    | refine AW.skip ?_
    | refine AW.exit rfl ?_
    | refine AW.label ?_
    | refine AW.cond rfl (fun hb => ?_) (fun hb => ?_))
  refine AW.prune [2, 3, 4, 5, 8, 9, 10, 11, 12, 43] (AW.loop (fun m af h => ∃ idx : List Nat, idx.Nodup ∧ (∀ k ∈ idx, k < (checkedP c).S.length) ∧ m = (checkedP c).S.length - idx.length ∧ af = [(2, bools G), (3, .int .i64 fuel), (4, .at c.av), (5, .at s.av), (8, .ref r1 0), (9, .ref r2 0), (10, .ref r3 0), (11, .ref r 0), (12, .ref b 0), (43, .ref it 0)] ∧ h = .iter it bs (checkedP c).gS.clk (seenOf (checkedP c).gS idx) :: ((checkedP c).ah b ba bs gA ++ resAH r1 r2 r3 r false 0 0 0) ∧ ∀ k ∈ idx, ∀ p, (checkedP c).S[k]? = some p → 0 ≤ findI s p.1 p.2) (checkedP c).S.length ⟨[], List.nodup_nil, by simp, by simp, rfl, rfl, by simp⟩ ?_)
  rintro m af h ⟨idx, hnd, hbd, rfl, rfl, rfl, hfind⟩
  refine AW.seq ?_
  have hbd' : ∀ k ∈ idx, k < (kvW iav (checkedP c).S).length := by rw [kvW_length]; exact hbd
  have hrl : s.Rels.length ≤ 4611686018427387904 := by obtain ⟨_, h2, _⟩ := hs; omega
  repeat' (first
    | refine AW.seq ?_
    | (refine AW.region_at 5 ?_ <;> refine AL.next 3 0 idx rfl rfl rfl hbd' rfl (fun hall => ?_) (fun k key v hk1 hk2 => ?_) <;> refine AL.ev rfl rfl rfl rfl ?_ <;> refine AL.nil ?_)
    | refine AW.cond_true rfl ?_
    | refine AW.cond_false rfl ?_
    | refine AW.block ?_
    | refine AW.endblk ?_
    | refine AW.skip ?_
    | refine AW.exit rfl ?_
    | refine AW.label ?_
    | refine AW.cond rfl (fun hb => ?_) (fun hb => ?_))
  rotate_left
  · obtain ⟨p, hp, rfl, rfl⟩ := kvW_get hk2
    have hpl : k < (checkedP c).S.length := (List.getElem?_eq_some_iff.1 hp).1
    have hfi := shape_Find s hrl p.1 p.2
    have hlen := nodup_bound (checkedP c).S.length (idx ++ [k]) (nodup_snoc hnd hk1) (by intro j hj; rcases List.mem_append.1 hj with h | h; exact hbd j h; simp at h; omega)
    simp only [List.length_append, List.length_singleton] at hlen
    repeat' (first
      | refine AW.seq ?_
      | (refine AW.region_at 6 ?_ <;> refine AL.det (AOp.entry (i := 3) (j := 0) (k := k) rfl rfl rfl hk2) rfl rfl rfl ?_ <;> refine AL.ev rfl rfl rfl rfl ?_ <;> refine AL.ev rfl rfl rfl rfl ?_ <;> refine AL.ev rfl rfl rfl rfl ?_ <;> refine AL.ev rfl rfl rfl rfl ?_ <;> refine AL.nil ?_)
      | (refine AW.region_at 7 ?_ <;> (first | refine AL.det (AOp.load_at rfl rfl (by kernel_rfl)) rfl rfl rfl ?_ | refine AL.det (AOp.load_leaf 0 rfl rfl rfl rfl (by kernel_rfl)) rfl rfl rfl ?_ | refine AL.det (AOp.load_all 0 rfl rfl rfl (by kernel_rfl)) rfl rfl rfl ?_ | refine AL.det (AOp.load_leaf 1 rfl rfl rfl rfl (by kernel_rfl)) rfl rfl rfl ?_ | refine AL.det (AOp.load_all 1 rfl rfl rfl (by kernel_rfl)) rfl rfl rfl ?_ | refine AL.det (AOp.load_leaf 2 rfl rfl rfl rfl (by kernel_rfl)) rfl rfl rfl ?_ | refine AL.det (AOp.load_all 2 rfl rfl rfl (by kernel_rfl)) rfl rfl rfl ?_ | refine AL.det (AOp.load_leaf 3 rfl rfl rfl rfl (by kernel_rfl)) rfl rfl rfl ?_ | refine AL.det (AOp.load_all 3 rfl rfl rfl (by kernel_rfl)) rfl rfl rfl ?_ | refine AL.det (AOp.load_leaf 4 rfl rfl rfl rfl (by kernel_rfl)) rfl rfl rfl ?_ | refine AL.det (AOp.load_all 4 rfl rfl rfl (by kernel_rfl)) rfl rfl rfl ?_ | refine AL.det (AOp.load_leaf 5 rfl rfl rfl rfl (by kernel_rfl)) rfl rfl rfl ?_ | refine AL.det (AOp.load_all 5 rfl rfl rfl (by kernel_rfl)) rfl rfl rfl ?_ | refine AL.det (AOp.load_leaf 6 rfl rfl rfl rfl (by kernel_rfl)) rfl rfl rfl ?_ | refine AL.det (AOp.load_all 6 rfl rfl rfl (by kernel_rfl)) rfl rfl rfl ?_ | refine AL.det (AOp.load_leaf 7 rfl rfl rfl rfl (by kernel_rfl)) rfl rfl rfl ?_ | refine AL.det (AOp.load_all 7 rfl rfl rfl (by kernel_rfl)) rfl rfl rfl ?_) <;> refine AL.ev rfl rfl rfl rfl ?_ <;> refine AL.ev rfl rfl rfl rfl ?_ <;> refine AL.det (AOp.call rfl rfl (hfi.pure _)) rfl rfl rfl ?_ <;> (first | refine AL.ev rfl rfl rfl rfl ?_ | refine AL.det (AOp.add rfl rfl (by omega)) rfl rfl rfl ?_ | refine AL.det (AOp.sub rfl rfl (by omega)) rfl rfl rfl ?_ | refine AL.det (AOp.bool_eq (by kernel_rfl) rfl rfl) rfl rfl rfl ?_ | refine AL.det (AOp.bool_ne (by kernel_rfl) rfl rfl) rfl rfl rfl ?_) <;> refine AL.nil ?_)
      | refine AW.cond_true rfl ?_
      | refine AW.cond_false rfl ?_
      | refine AW.block ?_
      | refine AW.endblk ?_
      | refine AW.skip ?_
      | refine AW.exit rfl ?_
      | refine AW.label ?_
      | refine AW.cond rfl (fun hb => ?_) (fun hb => ?_))
    · repeat' (first
        | refine AW.seq ?_
        | (refine AW.region_at 8 ?_ <;> (first | refine AL.store_leaf 0 rfl rfl rfl rfl rfl (by kernel_rfl) ?_ | refine AL.store_leaf 1 rfl rfl rfl rfl rfl (by kernel_rfl) ?_ | refine AL.store_leaf 2 rfl rfl rfl rfl rfl (by kernel_rfl) ?_ | refine AL.store_leaf 3 rfl rfl rfl rfl rfl (by kernel_rfl) ?_ | refine AL.store_leaf 4 rfl rfl rfl rfl rfl (by kernel_rfl) ?_ | refine AL.store_leaf 5 rfl rfl rfl rfl rfl (by kernel_rfl) ?_ | refine AL.store_leaf 6 rfl rfl rfl rfl rfl (by kernel_rfl) ?_ | refine AL.store_leaf 7 rfl rfl rfl rfl rfl (by kernel_rfl) ?_) <;> (first | refine AL.store_leaf 0 rfl rfl rfl rfl rfl (by kernel_rfl) ?_ | refine AL.store_leaf 1 rfl rfl rfl rfl rfl (by kernel_rfl) ?_ | refine AL.store_leaf 2 rfl rfl rfl rfl rfl (by kernel_rfl) ?_ | refine AL.store_leaf 3 rfl rfl rfl rfl rfl (by kernel_rfl) ?_ | refine AL.store_leaf 4 rfl rfl rfl rfl rfl (by kernel_rfl) ?_ | refine AL.store_leaf 5 rfl rfl rfl rfl rfl (by kernel_rfl) ?_ | refine AL.store_leaf 6 rfl rfl rfl rfl rfl (by kernel_rfl) ?_ | refine AL.store_leaf 7 rfl rfl rfl rfl rfl (by kernel_rfl) ?_) <;> (first | refine AL.store_leaf 0 rfl rfl rfl rfl rfl (by kernel_rfl) ?_ | refine AL.store_leaf 1 rfl rfl rfl rfl rfl (by kernel_rfl) ?_ | refine AL.store_leaf 2 rfl rfl rfl rfl rfl (by kernel_rfl) ?_ | refine AL.store_leaf 3 rfl rfl rfl rfl rfl (by kernel_rfl) ?_ | refine AL.store_leaf 4 rfl rfl rfl rfl rfl (by kernel_rfl) ?_ | refine AL.store_leaf 5 rfl rfl rfl rfl rfl (by kernel_rfl) ?_ | refine AL.store_leaf 6 rfl rfl rfl rfl rfl (by kernel_rfl) ?_ | refine AL.store_leaf 7 rfl rfl rfl rfl rfl (by kernel_rfl) ?_) <;> (first | refine AL.store_leaf 0 rfl rfl rfl rfl rfl (by kernel_rfl) ?_ | refine AL.store_leaf 1 rfl rfl rfl rfl rfl (by kernel_rfl) ?_ | refine AL.store_leaf 2 rfl rfl rfl rfl rfl (by kernel_rfl) ?_ | refine AL.store_leaf 3 rfl rfl rfl rfl rfl (by kernel_rfl) ?_ | refine AL.store_leaf 4 rfl rfl rfl rfl rfl (by kernel_rfl) ?_ | refine AL.store_leaf 5 rfl rfl rfl rfl rfl (by kernel_rfl) ?_ | refine AL.store_leaf 6 rfl rfl rfl rfl rfl (by kernel_rfl) ?_ | refine AL.store_leaf 7 rfl rfl rfl rfl rfl (by kernel_rfl) ?_) <;> refine AL.nil ?_)
        | refine AW.cond_true rfl ?_
        | refine AW.cond_false rfl ?_
        | refine AW.block ?_
        | refine AW.endblk ?_
        | refine AW.skip ?_
        | refine AW.exit rfl ?_
        | refine AW.label ?_
        | refine AW.cond rfl (fun hb => ?_) (fun hb => ?_))
      exact AW.retD0 (.cell 4 rfl rfl (by kernel_rfl) (.cell 5 rfl rfl (by kernel_rfl) (.cell 6 rfl rfl (by kernel_rfl) (.cell 7 rfl rfl (by kernel_rfl) .nil)))) ⟨_, _, _, _, .name hbad hval p (List.mem_of_getElem? hp) (by simpa using hb), rfl⟩
    · refine AW.again_keep ((checkedP c).S.length - (idx ++ [k]).length) [2, 3, 4, 5, 8, 9, 10, 11, 12, 43] (by simp only [List.length_append, List.length_singleton]; omega) ⟨idx ++ [k], nodup_snoc hnd hk1, ?_, rfl, rfl, rfl, ?_⟩
      · intro j hj; rcases List.mem_append.1 hj with h | h; exact hbd j h; simp at h; omega
      · intro j hj q hq
        rcases List.mem_append.1 hj with h | h
        · exact hfind j h q hq
        · simp at h; subst h; rw [hp] at hq; cases hq; simpa using hb
  have hfound : ∀ p ∈ (checkedP c).S, 0 ≤ findI s p.1 p.2 := by
    intro p hp
    obtain ⟨k, hk⟩ := List.getElem?_of_mem hp
    exact hfind k (hall k (by rw [kvW_length]; exact (List.getElem?_eq_some_iff.1 hk).1)) p hk
  clear hfind hall hbd hbd' hnd
  refine AW.drop (List.sublist_cons_self _ _) ?_
  refine AW.prune [2, 3, 4, 5, 8, 9, 10, 11, 12] ?_
  have hfu : ∀ (P : Prop), (fuel < 0 ∨ fuel > 10000000 → P) → (0 ≤ fuel ∧ fuel ≤ 10000000 → P) → P := fun P h1 h2 => by
    by_cases h : 0 ≤ fuel ∧ fuel ≤ 10000000
    · exact h2 h
    · exact h1 (by omega)
  refine hfu _ (fun hf => ?_) (fun hf => ?_)
  · repeat' (first
      | refine AW.seq ?_
      | (refine AW.region_at 9 ?_ <;> refine AL.ev rfl rfl rfl rfl ?_ <;> (first | refine AL.ev rfl rfl rfl rfl ?_ | refine AL.det (AOp.add rfl rfl (by omega)) rfl rfl rfl ?_ | refine AL.det (AOp.sub rfl rfl (by omega)) rfl rfl rfl ?_ | refine AL.det (AOp.bool_eq (by kernel_rfl) rfl rfl) rfl rfl rfl ?_ | refine AL.det (AOp.bool_ne (by kernel_rfl) rfl rfl) rfl rfl rfl ?_) <;> refine AL.ev rfl rfl rfl rfl ?_ <;> (first | (refine AL.guard_do rfl rfl rfl rfl ?_; refine AL.ev rfl rfl rfl rfl ?_) | refine AL.guard_skip rfl rfl rfl rfl rfl ?_ | refine AL.guard_undef rfl rfl rfl rfl ?_ | (refine AL.guard_split rfl rfl rfl (fun hb => ?_) (fun hb => ?_) <;> first | (refine AL.guard_do rfl rfl rfl rfl ?_; refine AL.ev rfl rfl rfl rfl ?_) | refine AL.guard_skip rfl rfl rfl rfl rfl ?_)) <;> (first | (refine AL.guard_do rfl rfl rfl rfl ?_; (first | refine AL.ev rfl rfl rfl rfl ?_ | refine AL.det (AOp.add rfl rfl (by omega)) rfl rfl rfl ?_ | refine AL.det (AOp.sub rfl rfl (by omega)) rfl rfl rfl ?_ | refine AL.det (AOp.bool_eq (by kernel_rfl) rfl rfl) rfl rfl rfl ?_ | refine AL.det (AOp.bool_ne (by kernel_rfl) rfl rfl) rfl rfl rfl ?_)) | refine AL.guard_skip rfl rfl rfl rfl rfl ?_ | refine AL.guard_undef rfl rfl rfl rfl ?_ | (refine AL.guard_split rfl rfl rfl (fun hb => ?_) (fun hb => ?_) <;> first | (refine AL.guard_do rfl rfl rfl rfl ?_; (first | refine AL.ev rfl rfl rfl rfl ?_ | refine AL.det (AOp.add rfl rfl (by omega)) rfl rfl rfl ?_ | refine AL.det (AOp.sub rfl rfl (by omega)) rfl rfl rfl ?_ | refine AL.det (AOp.bool_eq (by kernel_rfl) rfl rfl) rfl rfl rfl ?_ | refine AL.det (AOp.bool_ne (by kernel_rfl) rfl rfl) rfl rfl rfl ?_)) | refine AL.guard_skip rfl rfl rfl rfl rfl ?_)) <;> refine AL.ev rfl rfl rfl rfl ?_ <;> refine AL.nil ?_)
      | (refine AW.region_at 10 ?_ <;> (first | refine AL.store_leaf 0 rfl rfl rfl rfl rfl (by kernel_rfl) ?_ | refine AL.store_leaf 1 rfl rfl rfl rfl rfl (by kernel_rfl) ?_ | refine AL.store_leaf 2 rfl rfl rfl rfl rfl (by kernel_rfl) ?_ | refine AL.store_leaf 3 rfl rfl rfl rfl rfl (by kernel_rfl) ?_ | refine AL.store_leaf 4 rfl rfl rfl rfl rfl (by kernel_rfl) ?_ | refine AL.store_leaf 5 rfl rfl rfl rfl rfl (by kernel_rfl) ?_ | refine AL.store_leaf 6 rfl rfl rfl rfl rfl (by kernel_rfl) ?_) <;> (first | refine AL.store_leaf 0 rfl rfl rfl rfl rfl (by kernel_rfl) ?_ | refine AL.store_leaf 1 rfl rfl rfl rfl rfl (by kernel_rfl) ?_ | refine AL.store_leaf 2 rfl rfl rfl rfl rfl (by kernel_rfl) ?_ | refine AL.store_leaf 3 rfl rfl rfl rfl rfl (by kernel_rfl) ?_ | refine AL.store_leaf 4 rfl rfl rfl rfl rfl (by kernel_rfl) ?_ | refine AL.store_leaf 5 rfl rfl rfl rfl rfl (by kernel_rfl) ?_ | refine AL.store_leaf 6 rfl rfl rfl rfl rfl (by kernel_rfl) ?_) <;> (first | refine AL.store_leaf 0 rfl rfl rfl rfl rfl (by kernel_rfl) ?_ | refine AL.store_leaf 1 rfl rfl rfl rfl rfl (by kernel_rfl) ?_ | refine AL.store_leaf 2 rfl rfl rfl rfl rfl (by kernel_rfl) ?_ | refine AL.store_leaf 3 rfl rfl rfl rfl rfl (by kernel_rfl) ?_ | refine AL.store_leaf 4 rfl rfl rfl rfl rfl (by kernel_rfl) ?_ | refine AL.store_leaf 5 rfl rfl rfl rfl rfl (by kernel_rfl) ?_ | refine AL.store_leaf 6 rfl rfl rfl rfl rfl (by kernel_rfl) ?_) <;> (first | refine AL.store_leaf 0 rfl rfl rfl rfl rfl (by kernel_rfl) ?_ | refine AL.store_leaf 1 rfl rfl rfl rfl rfl (by kernel_rfl) ?_ | refine AL.store_leaf 2 rfl rfl rfl rfl rfl (by kernel_rfl) ?_ | refine AL.store_leaf 3 rfl rfl rfl rfl rfl (by kernel_rfl) ?_ | refine AL.store_leaf 4 rfl rfl rfl rfl rfl (by kernel_rfl) ?_ | refine AL.store_leaf 5 rfl rfl rfl rfl rfl (by kernel_rfl) ?_ | refine AL.store_leaf 6 rfl rfl rfl rfl rfl (by kernel_rfl) ?_) <;> refine AL.nil ?_)
      | refine AW.cond_true rfl ?_
      | refine AW.cond_false rfl ?_
      | refine AW.block ?_
      | refine AW.endblk ?_
      | refine AW.skip ?_
      | refine AW.exit rfl ?_
      | refine AW.label ?_
      | refine AW.cond rfl (fun hb => ?_) (fun hb => ?_))
    all_goals first
      | (exfalso; simp only [decide_eq_true_eq, decide_eq_false_iff_not] at *; omega)
      | exact AW.retD0 (.cell 3 rfl rfl (by kernel_rfl) (.cell 4 rfl rfl (by kernel_rfl) (.cell 5 rfl rfl (by kernel_rfl) (.cell 6 rfl rfl (by kernel_rfl) .nil)))) ⟨_, _, _, _, .arg hbad hval hfound hf, rfl⟩
  repeat' (first
    | refine AW.seq ?_
    | (refine AW.region_at 9 ?_ <;> refine AL.ev rfl rfl rfl rfl ?_ <;> (first | refine AL.ev rfl rfl rfl rfl ?_ | refine AL.det (AOp.add rfl rfl (by omega)) rfl rfl rfl ?_ | refine AL.det (AOp.sub rfl rfl (by omega)) rfl rfl rfl ?_ | refine AL.det (AOp.bool_eq (by kernel_rfl) rfl rfl) rfl rfl rfl ?_ | refine AL.det (AOp.bool_ne (by kernel_rfl) rfl rfl) rfl rfl rfl ?_) <;> refine AL.ev rfl rfl rfl rfl ?_ <;> (first | (refine AL.guard_do rfl rfl rfl rfl ?_; refine AL.ev rfl rfl rfl rfl ?_) | refine AL.guard_skip rfl rfl rfl rfl rfl ?_ | refine AL.guard_undef rfl rfl rfl rfl ?_ | (refine AL.guard_split rfl rfl rfl (fun hb => ?_) (fun hb => ?_) <;> first | (refine AL.guard_do rfl rfl rfl rfl ?_; refine AL.ev rfl rfl rfl rfl ?_) | refine AL.guard_skip rfl rfl rfl rfl rfl ?_)) <;> (first | (refine AL.guard_do rfl rfl rfl rfl ?_; (first | refine AL.ev rfl rfl rfl rfl ?_ | refine AL.det (AOp.add rfl rfl (by omega)) rfl rfl rfl ?_ | refine AL.det (AOp.sub rfl rfl (by omega)) rfl rfl rfl ?_ | refine AL.det (AOp.bool_eq (by kernel_rfl) rfl rfl) rfl rfl rfl ?_ | refine AL.det (AOp.bool_ne (by kernel_rfl) rfl rfl) rfl rfl rfl ?_)) | refine AL.guard_skip rfl rfl rfl rfl rfl ?_ | refine AL.guard_undef rfl rfl rfl rfl ?_ | (refine AL.guard_split rfl rfl rfl (fun hb => ?_) (fun hb => ?_) <;> first | (refine AL.guard_do rfl rfl rfl rfl ?_; (first | refine AL.ev rfl rfl rfl rfl ?_ | refine AL.det (AOp.add rfl rfl (by omega)) rfl rfl rfl ?_ | refine AL.det (AOp.sub rfl rfl (by omega)) rfl rfl rfl ?_ | refine AL.det (AOp.bool_eq (by kernel_rfl) rfl rfl) rfl rfl rfl ?_ | refine AL.det (AOp.bool_ne (by kernel_rfl) rfl rfl) rfl rfl rfl ?_)) | refine AL.guard_skip rfl rfl rfl rfl rfl ?_)) <;> refine AL.ev rfl rfl rfl rfl ?_ <;> refine AL.nil ?_)
    | refine AW.cond_true rfl ?_
    | refine AW.cond_false rfl ?_
    | refine AW.block ?_
    | refine AW.endblk ?_
    | refine AW.skip ?_
    | refine AW.exit rfl ?_
    | refine AW.label ?_
    | refine AW.cond rfl (fun hb => ?_) (fun hb => ?_))
  all_goals try (exfalso; simp only [decide_eq_true_eq, decide_eq_false_iff_not] at *; omega)
  refine AW.prune [2, 3, 4, 5, 8, 9, 10, 11, 12] ?_
  obtain ⟨hfl, hrg, hkeys, harrs, hapart, hlook, honly, har, hsar, hbody⟩ := hko
  have hFx : (some (AV.int .i64 c.Flags)) = some (AV.int .i64 (c.Flags.toNat : Nat)) := by rw [Int.toNat_of_nonneg (by omega)]
  have hRx : (some (AV.int .i64 c.Regs)) = some (AV.int .i64 (c.Regs.toNat : Nat)) := by rw [Int.toNat_of_nonneg hrg.1]
  have hFb : c.Flags.toNat ≤ 1000 := by omega
  have hRb : c.Regs.toNat ≤ 60 := by omega
  refine AW.cut (fun af ah => ∃ B : Blk, B.names = [] ∧ af = [(2, bools G), (3, .int .i64 fuel), (4, .at c.av), (5, .at s.av), (8, .ref r1 0), (9, .ref r2 0), (10, .ref r3 0), (11, .ref r 0), (12, .ref b 0), (15, .ref B.mb 0)] ∧ ah = (checkedP c).ah b ba bs gA ++ resAH r1 r2 r3 r false 0 0 0 ++ (⟨List.replicate c.Flags.toNat false, List.replicate c.Regs.toNat 0, fun _ => [], 0, 0⟩ : MS).ah ⟨s.Size, G, fuel⟩ B) ?_ ?_
  · refine AW.explore [] [4, 7, 8, 11, 12, 13, 14] rfl (by kernel_rfl) (by kernel_rfl) (by kernel_rfl) (by kernel_rfl) ?_
    repeat' (first
      | refine AQE.hole rfl rfl ?_
      | refine AQE.ev rfl rfl rfl rfl ?_
      | refine AQE.op rfl (AOp.field_at rfl rfl (by kernel_rfl) rfl) rfl rfl ?_
      | refine AQE.op rfl (AOp.load_at rfl rfl (by kernel_rfl)) rfl rfl ?_
      | refine AQE.nil ?_)
    repeat' (first
      | refine AX.four (n := 6) 4 7 8 11 rfl ?_ ?_ ?_ ?_
      | refine AX.three (n := 5) 4 7 8 rfl ?_ ?_ ?_
      | refine AX.three (n := 5) 4 7 11 rfl ?_ ?_ ?_
      | refine AX.three (n := 5) 4 8 11 rfl ?_ ?_ ?_
      | refine AX.three (n := 5) 7 8 11 rfl ?_ ?_ ?_
      | refine AX.two (n := 4) 4 7 rfl ?_ ?_
      | refine AX.two (n := 4) 4 8 rfl ?_ ?_
      | refine AX.two (n := 4) 4 11 rfl ?_ ?_
      | refine AX.two (n := 4) 7 8 rfl ?_ ?_
      | refine AX.two (n := 4) 7 11 rfl ?_ ?_
      | refine AX.two (n := 4) 8 11 rfl ?_ ?_
      | refine AX.one (n := 3) 4 rfl ?_
      | refine AX.one (n := 3) 7 rfl ?_
      | refine AX.one (n := 3) 8 rfl ?_
      | refine AX.one (n := 3) 11 rfl ?_
      | refine AX.one (n := 2) 12 rfl ?_
      | refine AX.one (n := 1) 13 rfl ?_
      | refine AX.one (n := 0) 14 rfl ?_
      | (refine AXS.new (i := 4) rfl rfl rfl (AOp.makeSlice (n := c.Flags.toNat) (e := 4) (c := .bool false) (z := .bool false) (bytes := 1) hFx hFx (by kernel_rfl) rfl (by omega) (by omega)) (fun bf => ?_); dsimp only [List.set_cons_succ, List.set_cons_zero])
      | (refine AXS.new (i := 7) rfl rfl rfl (AOp.makeSlice (n := c.Regs.toNat) (e := 3) (c := .int .i64 0) (z := .int .i64 0) (bytes := 8) hRx hRx (by kernel_rfl) rfl (by omega) (by omega)) (fun br => ?_); dsimp only [List.set_cons_succ, List.set_cons_zero])
      | (refine AXS.new (i := 8) rfl rfl rfl AOp.makeMap (fun bl => ?_); dsimp only [List.set_cons_succ, List.set_cons_zero])
      | (refine AXS.step (i := 11) rfl rfl rfl (AOp.call rfl rfl (code_actions.behind _)) ?_ (by rintro _ _ ⟨_, ⟨_, _, e, _⟩, _⟩; cases e); rintro _ _ ⟨_, ⟨bu, gu, e, rfl⟩, rfl⟩; injection e with e; subst e; dsimp only [List.set_cons_succ, List.set_cons_zero])
      | (refine AXS.det (i := 12) rfl rfl rfl (AOp.build (pl := [(0, 1), (1, 1), (2, 1), (3, 1), (4, 1), (5, 1), (6, 1), (7, 1), (8, 1)]) (z := .st [.int .i64 0, .sl [], .sl [], .val (.map none), .sl [], .int .i64 0, .int .i64 0, .int .i64 0, .val (.map none)]) (by kernel_rfl) rfl rfl rfl) ?_; dsimp only [List.set_cons_succ, List.set_cons_zero])
      | (refine AXS.new (i := 13) rfl rfl rfl (AOp.box rfl rfl) (fun bm => ?_); dsimp only [List.set_cons_succ, List.set_cons_zero])
      | (refine AXS.det (i := 14) rfl rfl rfl (AOp.ev rfl) ?_; dsimp only [List.set_cons_succ, List.set_cons_zero]))
    all_goals
      refine AX.done [(2, bools G), (3, .int .i64 fuel), (4, .at c.av), (5, .at s.av), (8, .ref r1 0), (9, .ref r2 0), (10, .ref r3 0), (11, .ref r 0), (12, .ref b 0), (15, .ref bm 0)] rfl ?_
      refine AW.perm (b := (checkedP c).ah b ba bs gA ++ resAH r1 r2 r3 r false 0 0 0 ++ (⟨List.replicate c.Flags.toNat false, List.replicate c.Regs.toNat 0, fun _ => [], 0, 0⟩ : MS).ah ⟨s.Size, G, fuel⟩ ⟨bm, bf, br, bl, bu, [], fun _ => 0, ⟨[], 0⟩, gu⟩) ?_ (AW.meet [2, 3, 4, 5, 8, 9, 10, 11, 12, 15] ⟨_, rfl, rfl, rfl⟩)
      refine List.perm_append_comm.trans (List.Perm.append_left _ ?_)
      simp only [MS.ah, MS.box, List.map_replicate, List.length_replicate, List.map_nil]
      repeat' (first
        | exact List.Perm.nil
        | refine List.Perm.cons _ ?_
        | refine (List.perm_middle (l₁ := [_])).trans (List.Perm.cons _ ?_)
        | refine (List.perm_middle (l₁ := [_, _])).trans (List.Perm.cons _ ?_)
        | refine (List.perm_middle (l₁ := [_, _, _])).trans (List.Perm.cons _ ?_)
        | refine (List.perm_middle (l₁ := [_, _, _, _])).trans (List.Perm.cons _ ?_))
  · rintro af ah ⟨B, hB, rfl, rfl⟩
    refine AW.seq (AW.seq ?_)
    exact run_t6 c s G fuel hc hs hG hbad hval hfound hf (hk hbad) b ba bs r1 r2 r3 r gA B hB Fr w0
end Go.Proofs.Ytdedkpfbfklgbaa
