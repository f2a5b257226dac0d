/- Contracts: Run's loop over the symbols. -/
import Derived.Test.YtdedkpfbfklgbaaC30
namespace Go.Proofs.Ytdedkpfbfklgbaa
open Go.RowKit Go.SX
set_option maxRecDepth 100000
set_option maxHeartbeats 4000000
set_option linter.unusedVariables false
set_option linter.unusedSimpArgs false

theorem upd_upd (f : ByteArray → List Bool) (k : ByteArray) (xs ys : List Bool) : upd (upd f k xs) k ys = upd f k ys := by
  funext a
  by_cases h : a = k
  · subst h; simp [upd_same]
  · simp [upd_ne _ _ h]
theorem look_mem {A : List (ByteArray × Int)} (hn : (A.map (·.1)).Nodup) {p : ByteArray × Int} (h : p ∈ A) : lookA A p.1 = some p.2 := by
  induction A with
  | nil => cases h
  | cons q A ih =>
    obtain ⟨k', w⟩ := q
    simp only [List.map_cons, List.nodup_cons] at hn
    rw [lookA]
    rcases List.mem_cons.1 h with rfl | h
    · simp
    · have hne : ¬ p.1 = k' := fun e => hn.1 (e ▸ List.mem_map_of_mem h)
      rw [if_neg hne, ih hn.2 h]
theorem look_none {A : List (ByteArray × Int)} {k : ByteArray} (h : k ∉ A.map (·.1)) : lookA A k = none := by
  cases e : lookA A k with
  | none => rfl
  | some n => exact (h (List.mem_map_of_mem (sym_mem e))).elim
theorem run_t6 (c : GCode) (s : GStr) (G : List Bool) (fuel : Int) (hc : c.Ok) (hs : s.Ok) (hG : G.length ≤ 4611686018427387904) (hbad : (checkedP c).bad = false) (hval : validStr s = true) (hfound : ∀ p ∈ (checkedP c).S, 0 ≤ findI s p.1 p.2) (hf : 0 ≤ fuel ∧ fuel ≤ 10000000) (hck : ChkOk c) (b ba bs r1 r2 r3 r4 : Nat) (gA : MG) (B : Blk)
    (hB : B.names = []) (Fr : Rg) (w0 : World) :
    AW (CofD Try.prog Try.f10 179 Fr (reg []) w0 (RunPost c s G fuel)) [] [.c (fst1 (fst1 (sndN 6 (bodyOf Try.f10)))), .c (sndN 1 (fst1 (sndN 6 (bodyOf Try.f10)))), .c (sndN 7 (bodyOf Try.f10))] (runAF c s G fuel b r1 r2 r3 r4 B.mb) ((checkedP c).ah b ba bs gA ++ resAH r1 r2 r3 r4 false 0 0 0 ++ (msr c fun _ => []).ah ⟨s.Size, G, fuel⟩ B) := by
  obtain ⟨v1, v2, v3⟩ := valid_rel hval
  have hrl : s.Rels.length ≤ 4611686018427387904 := by obtain ⟨_, h2, _⟩ := hs; omega
  have hs3 := hs.2.2
  -- refine Tri.enterD 179 Try.func10 rfl rfl rfl rfl fun Fr w0 => ?_
  repeat' (first
    | refine AW.seq ?_
    | (refine AW.region_at 12 ?_ <;> refine AL.ev rfl rfl rfl rfl ?_ <;> refine AL.ev rfl rfl rfl rfl ?_ <;> (first | refine AL.det (AOp.field_at rfl rfl (by kernel_rfl) rfl) rfl rfl rfl ?_ | refine AL.det (AOp.field_ref (off := 5) rfl (by kernel_rfl)) rfl rfl rfl ?_) <;> (first | refine AL.det (AOp.load_at rfl rfl (by kernel_rfl)) rfl rfl rfl ?_ | refine AL.det (AOp.load_leaf 0 rfl rfl rfl rfl (by kernel_rfl)) rfl rfl rfl ?_ | refine AL.det (AOp.load_all 0 rfl rfl rfl (by kernel_rfl)) rfl rfl rfl ?_ | refine AL.det (AOp.load_leaf 1 rfl rfl rfl rfl (by kernel_rfl)) rfl rfl rfl ?_ | refine AL.det (AOp.load_all 1 rfl rfl rfl (by kernel_rfl)) rfl rfl rfl ?_ | refine AL.det (AOp.load_leaf 2 rfl rfl rfl rfl (by kernel_rfl)) rfl rfl rfl ?_ | refine AL.det (AOp.load_all 2 rfl rfl rfl (by kernel_rfl)) rfl rfl rfl ?_ | refine AL.det (AOp.load_leaf 3 rfl rfl rfl rfl (by kernel_rfl)) rfl rfl rfl ?_ | refine AL.det (AOp.load_all 3 rfl rfl rfl (by kernel_rfl)) rfl rfl rfl ?_ | refine AL.det (AOp.load_leaf 4 rfl rfl rfl rfl (by kernel_rfl)) rfl rfl rfl ?_ | refine AL.det (AOp.load_all 4 rfl rfl rfl (by kernel_rfl)) rfl rfl rfl ?_ | refine AL.det (AOp.load_leaf 5 rfl rfl rfl rfl (by kernel_rfl)) rfl rfl rfl ?_ | refine AL.det (AOp.load_all 5 rfl rfl rfl (by kernel_rfl)) rfl rfl rfl ?_ | refine AL.det (AOp.load_leaf 6 rfl rfl rfl rfl (by kernel_rfl)) rfl rfl rfl ?_ | refine AL.det (AOp.load_all 6 rfl rfl rfl (by kernel_rfl)) rfl rfl rfl ?_) <;> refine AL.range 2 3 .string rfl rfl (by kernel_rfl) rfl fun it => ?_ <;> refine AL.nil ?_)
    | refine AW.cond_true rfl ?_
    | refine AW.cond_false rfl ?_
    | refine AW.block ?_
    | refine AW.endblk ?_
    | refine AW.skip ?_
    | refine AW.exit rfl ?_
    | refine AW.label ?_
    | refine AW.cond rfl (fun hb => ?_) (fun hb => ?_))
  refine AW.prune [2, 3, 4, 5, 8, 9, 10, 11, 12, 15, 78] (AW.loop (fun m af h => ∃ (idx : List Nat) (B' : Blk) (rl : ByteArray → List Bool), idx.Nodup ∧ (∀ k ∈ idx, k < (checkedP c).S.length) ∧ m = (checkedP c).S.length - idx.length ∧ af = runAF c s G fuel b r1 r2 r3 r4 B.mb ++ [(78, .ref it 0)] ∧ h = .iter it bs (checkedP c).gS.clk (seenOf (checkedP c).gS idx) :: ((checkedP c).ah b ba bs gA ++ resAH r1 r2 r3 r4 false 0 0 0 ++ (msr c rl).ah ⟨s.Size, G, fuel⟩ B') ∧ B'.mb = B.mb ∧ B'.names.Nodup ∧ (∀ k, k ∈ B'.names ↔ ∃ j ∈ idx, ∃ p, (checkedP c).S[j]? = some p ∧ p.1 = k) ∧ (∀ k ∈ B'.names, rl k = symR s (checkedP c) k) ∧ ∀ k, k ∉ B'.names → rl k = []) (checkedP c).S.length ⟨[], B, fun _ => [], List.nodup_nil, by simp, by simp, rfl, rfl, rfl, by rw [hB]; exact List.nodup_nil, by rw [hB]; simp, by rw [hB]; simp, fun _ _ => rfl⟩ ?_)
  rintro m af h ⟨idx, B', rl, hnd, hbd, rfl, rfl, rfl, hmb, hnd', hnm', hrl1, hrl2⟩
  refine AW.seq ?_
  have hbd' : ∀ k ∈ idx, k < (kvW iav (checkedP c).S).length := by rw [kvW_length]; exact hbd
  repeat' (first
    | refine AW.seq ?_
    | (refine AW.region_at 13 ?_ <;> refine AL.next 3 0 idx rfl rfl rfl hbd' rfl (fun hall => ?_) (fun k key v hk1 hk2 => ?_) <;> refine AL.ev rfl rfl rfl rfl ?_ <;> refine AL.nil ?_)
    | refine AW.cond_true rfl ?_
    | refine AW.cond_false rfl ?_
    | refine AW.block ?_
    | refine AW.endblk ?_
    | refine AW.skip ?_
    | refine AW.exit rfl ?_
    | refine AW.label ?_
    | refine AW.cond rfl (fun hb => ?_) (fun hb => ?_))
  · have hall' : ∀ k, k ∈ B'.names ↔ k ∈ (checkedP c).S.map (·.1) := by
      intro k
      rw [hnm']
      constructor
      · rintro ⟨j, _, p, hp, rfl⟩; exact List.mem_map_of_mem (List.mem_of_getElem? hp)
      · intro h
        obtain ⟨p, hp, rfl⟩ := List.mem_map.1 h
        obtain ⟨j, hj⟩ := List.getElem?_of_mem hp
        exact ⟨j, hall j (by rw [kvW_length]; exact (List.getElem?_eq_some_iff.1 hj).1), p, hj, rfl⟩
    have e : rl = symR s (checkedP c) := by
      funext k
      by_cases h : k ∈ B'.names
      · exact hrl1 k h
      · rw [hrl2 k h, symR, look_none (fun h' => h ((hall' k).2 h'))]
    subst e
    refine AW.drop (List.sublist_cons_self _ _) ?_
    have h7 := run_t7 c s G fuel hc hG hbad hval hfound hf hck b ba bs r1 r2 r3 r4 gA B' hnd' hall' Fr w0
    rw [hmb] at h7
    exact AW.prune [2, 3, 4, 5, 8, 9, 10, 11, 12, 15] h7
  obtain ⟨p, hp, rfl, rfl⟩ := kvW_get hk2
  have hpm := List.mem_of_getElem? hp
  have hpl : k < (checkedP c).S.length := (List.getElem?_eq_some_iff.1 hp).1
  have hfi := shape_Find s hrl p.1 p.2
  have hlk := look_mem hck.keys hpm
  obtain ⟨r, hr, hr1, hr2, hr3⟩ := find_rel (hfound p hpm)
  have hr' : (s.Rels.map GRel.av)[(findI s p.1 p.2).toNat]? = some r.av := map_get hr
  have hrm := List.mem_of_getElem? hr
  have hrb := v3 r hrm
  have hro := hs3 r hrm
  have hf0 := hfound p hpm
  have hlen := nodup_bound (checkedP c).S.length (idx ++ [k]) (nodup_snoc hnd hk1) (by intro j hj; rcases List.mem_append.1 hj with h | h; exact hbd j h; simp at h; omega)
  simp only [List.length_append, List.length_singleton] at hlen
  repeat' (first
    | refine AW.seq ?_
    | (refine AW.region_at 14 ?_ <;> refine AL.det (AOp.entry (i := 3) (j := 0) (k := k) rfl rfl rfl hk2) rfl rfl rfl ?_ <;> refine AL.ev rfl rfl rfl rfl ?_ <;> refine AL.ev rfl rfl rfl rfl ?_ <;> refine AL.nil ?_)
    | refine AW.cond_true rfl ?_
    | refine AW.cond_false rfl ?_
    | refine AW.block ?_
    | refine AW.endblk ?_
    | refine AW.skip ?_
    | refine AW.exit rfl ?_
    | refine AW.label ?_
    | refine AW.cond rfl (fun hb => ?_) (fun hb => ?_))
  refine AW.prune [2, 3, 4, 5, 8, 9, 10, 11, 12, 15, 16, 78] ?_
  refine AW.explore [] [13, 14] rfl (by kernel_rfl) (by kernel_rfl) (by kernel_rfl) (by kernel_rfl) ?_
  repeat' (first
    | refine AQE.hole rfl rfl ?_
    | refine AQE.ev rfl rfl rfl rfl ?_
    | refine AQE.op rfl (AOp.field_at rfl rfl (by kernel_rfl) rfl) rfl rfl ?_
    | refine AQE.op rfl (AOp.field_ref (k := 2) (off := 5) rfl (by kernel_rfl)) rfl rfl ?_
    | refine AQE.op rfl (AOp.load_at rfl rfl (by kernel_rfl)) rfl rfl ?_
    | refine AQE.op rfl (AOp.load_leaf 1 rfl rfl rfl rfl (by kernel_rfl)) rfl rfl ?_
    | refine AQE.op rfl (AOp.lookS_hit (g := iav) (ok := false) 3 3 hlk rfl rfl rfl (by kernel_rfl)) rfl rfl ?_
    | refine AQE.op rfl (AOp.call rfl rfl (hfi.pure _)) rfl rfl ?_
    | refine AQE.op rfl (AOp.index_sl rfl rfl (by omega) hr' (by kernel_rfl) rfl) rfl rfl ?_
    | refine AQE.nil ?_)
  refine AX.one (n := 1) 13 rfl ?_
  refine AXS.new (i := 13) rfl rfl rfl (AOp.alloc (t := 48) (z := .st [.str ⟨#[]⟩, .int .i64 0, .sl []]) (by kernel_rfl) rfl) (fun br => ?_)
  dsimp only [List.set_cons_succ, List.set_cons_zero]
  refine AX.one (n := 0) 14 rfl ?_
  refine AXS.step (i := 14) rfl rfl rfl (AOp.store_box (i := 0) (g := true) (v := r.av) (c' := r.av) rfl rfl rfl rfl rfl (by kernel_rfl)) ?_ (by rintro _ _ ⟨⟨_, e⟩, _⟩; cases e)
  rintro _ _ ⟨⟨_, e⟩, rfl⟩
  dsimp only [List.set_cons_succ, List.set_cons_zero]
  refine AX.done [(2, bools G), (3, .int .i64 fuel), (4, .at c.av), (5, .at s.av), (8, .ref r1 0), (9, .ref r2 0), (10, .ref r3 0), (11, .ref r4 0), (12, .ref b 0), (15, .ref B.mb 0), (16, .str p.1), (17, .ref br 0), (78, .ref it 0)] rfl ?_
  refine AW.freeze 0 17 (b := br) (c := r.av) rfl rfl ?_
  refine AW.frame_eq (ah' := Own.iter it bs (checkedP c).gS.clk (seenOf (checkedP c).gS (idx ++ [k])) :: ((checkedP c).ah b ba bs gA ++ resAH r1 r2 r3 r4 false 0 0 0 ++ (msr c rl).ah ⟨s.Size, G, fuel⟩ B')) rfl rfl ?_
  clear e
  have hpw := shape_Power s.Size r.Arity
  have hp0 := rel_power v1 v2 hrb
  have hpv := power_val hp0.1
  have hVx : (some (AV.int .i64 (powerR s.Size r.Arity).1)) = some (AV.int .i64 ((powerR s.Size r.Arity).1.toNat : Nat)) := by rw [Int.toNat_of_nonneg (by rw [hpv.1]; exact hpv.2.2)]
  have hVb : (powerR s.Size r.Arity).1.toNat ≤ 4096 := by rw [hpv.1]; omega
  have hnew : p.1 ∉ B'.names := by
    rw [hnm']
    rintro ⟨j, hj, q, hq, e⟩
    have hjl : j < (checkedP c).S.length := (List.getElem?_eq_some_iff.1 hq).1
    have : j = k := (List.getElem?_inj (l := (checkedP c).S.map (·.1)) (by simpa using hjl) hck.keys).1 (by simp [hq, hp, e])
    subst this
    exact hk1 hj
  repeat' (first
    | refine AW.seq ?_
    | (refine AW.region_at 16 ?_ <;> (first | refine AL.det (AOp.field_at rfl rfl (by kernel_rfl) rfl) rfl rfl rfl ?_ | refine AL.det (AOp.field_ref (off := 0) rfl (by kernel_rfl)) rfl rfl rfl ?_) <;> refine AL.det (AOp.load_at rfl rfl (by kernel_rfl)) rfl rfl rfl ?_ <;> (first | refine AL.det (AOp.field_at rfl rfl (by kernel_rfl) rfl) rfl rfl rfl ?_ | refine AL.det (AOp.field_ref (off := 1) rfl (by kernel_rfl)) rfl rfl rfl ?_) <;> refine AL.det (AOp.load_at rfl rfl (by kernel_rfl)) rfl rfl rfl ?_ <;> refine AL.det (AOp.call rfl rfl (hpw.pure _)) rfl rfl rfl ?_ <;> refine AL.ev rfl rfl rfl rfl ?_ <;> refine AL.ev rfl rfl rfl rfl ?_ <;> refine AL.ev rfl rfl rfl rfl ?_ <;> refine AL.ev rfl rfl rfl rfl ?_ <;> refine AL.ev rfl rfl rfl rfl ?_ <;> refine AL.nil ?_)
    | refine AW.cond_true rfl ?_
    | refine AW.cond_false rfl ?_
    | refine AW.block ?_
    | refine AW.endblk ?_
    | refine AW.skip ?_
    | refine AW.exit rfl ?_
    | refine AW.label ?_
    | refine AW.cond rfl (fun hb => ?_) (fun hb => ?_))
  refine AW.prune [2, 3, 4, 5, 8, 9, 10, 11, 12, 15, 16, 17, 18, 78] ?_
  have hmbx : (some (AV.ref B.mb 0)) = some (AV.ref B'.mb 0) := by rw [hmb]
  refine AW.explore [false, false, false, false, false, false, false, false, false, false, false, true] [6, 7] rfl (by kernel_rfl) (by kernel_rfl) (by kernel_rfl) (by kernel_rfl) ?_
  refine AQE.ev rfl (show evalOp _ _ = some (AV.ref B'.mb 0) from hmbx) rfl rfl ?_
  repeat' (first
    | refine AQE.hole rfl rfl ?_
    | refine AQE.ev rfl rfl rfl rfl ?_
    | refine AQE.op rfl (AOp.field_ref (k := 3) (off := 3) rfl (by kernel_rfl)) rfl rfl ?_
    | refine AQE.op rfl (AOp.load_leaf 8 rfl rfl rfl rfl (by kernel_rfl)) rfl rfl ?_
    | refine AQE.nil ?_)
  refine AX.one (n := 1) 6 rfl ?_
  refine AXS.new (i := 6) rfl rfl rfl (AOp.makeSlice (n := (powerR s.Size r.Arity).1.toNat) (e := 4) (c := .bool false) (z := .bool false) (bytes := 1) hVx hVx (by kernel_rfl) rfl (by omega) (by omega)) (fun nb => ?_)
  dsimp only [List.set_cons_succ, List.set_cons_zero]
  refine AX.one (n := 0) 7 rfl ?_
  refine AXS.step (i := 7) rfl rfl rfl (AOp.mapUpdate (i := 1) (kd := .string) (e := 29) (k := .str p.1) (v := .osl nb (powerR s.Size r.Arity).1.toNat (powerR s.Size r.Arity).1.toNat) rfl rfl rfl rfl (by kernel_rfl) rfl (keysOK_kvW _ _)) ?_ (by rintro _ _ ⟨⟨_, e⟩, _⟩; cases e)
  rintro _ _ ⟨⟨_, e⟩, rfl⟩
  dsimp only [List.set_cons_succ, List.set_cons_zero]
  refine AX.done [(2, bools G), (3, .int .i64 fuel), (4, .at c.av), (5, .at s.av), (8, .ref r1 0), (9, .ref r2 0), (10, .ref r3 0), (11, .ref r4 0), (12, .ref b 0), (15, .ref B.mb 0), (16, .str p.1), (17, .at r.av), (78, .ref it 0)] rfl ?_
  clear e
  refine AW.perm (ah_new ⟨s.Size, G, fuel⟩ B' (msr c rl) (Own.iter it bs (checkedP c).gS.clk (seenOf (checkedP c).gS (idx ++ [k])) :: ((checkedP c).ah b ba bs gA ++ resAH r1 r2 r3 r4 false 0 0 0)) hnew nb (List.replicate (powerR s.Size r.Arity).1.toNat false) _ (List.length_replicate ..).symm _ (List.map_replicate ..).symm) ?_
  generalize hB2 : B'.add p.1 nb _ = B2
  have hmb2 : B2.mb = B.mb := by rw [← hB2]; exact hmb
  have hnm2 : B2.names = B'.names ++ [p.1] := by rw [← hB2]; rfl
  have hnd2 : B2.names.Nodup := by
    rw [hnm2, List.nodup_append]
    exact ⟨hnd', by simp, fun a ha b hb e => by simp at hb; subst hb; subst e; exact hnew ha⟩
  clear hB2
  have hin : p.1 ∈ B2.names := by rw [hnm2]; simp
  have htl : r.Tuples.length ≤ 4611686018427387904 := by have := hro.2.2.1; omega
  have htup : ∀ t ∈ r.Tuples, t.length ≤ 4611686018427387904 := fun t ht => by have := (hro.2.2.2 t ht).1; omega
  repeat' (first
    | refine AW.seq ?_
    | (refine AW.region_at 18 ?_ <;> (first | refine AL.det (AOp.field_at rfl rfl (by kernel_rfl) rfl) rfl rfl rfl ?_ | refine AL.det (AOp.field_ref (off := 2) rfl (by kernel_rfl)) rfl rfl rfl ?_) <;> refine AL.det (AOp.load_at rfl rfl (by kernel_rfl)) rfl rfl rfl ?_ <;> refine AL.det (AOp.len rfl rfl (by kernel_rfl)) rfl rfl rfl ?_ <;> refine AL.ev rfl rfl rfl rfl ?_ <;> refine AL.nil ?_)
    | refine AW.cond_true rfl ?_
    | refine AW.cond_false rfl ?_
    | refine AW.block ?_
    | refine AW.endblk ?_
    | refine AW.skip ?_
    | refine AW.exit rfl ?_
    | refine AW.label ?_
    | refine AW.cond rfl (fun hb => ?_) (fun hb => ?_))
  refine AW.prune [2, 3, 4, 5, 8, 9, 10, 11, 12, 15, 16, 78, 112, 113, 114] (AW.loop (fun m af h => ∃ (j : Nat) (cur : List Bool), j ≤ r.Tuples.length ∧ m = r.Tuples.length - j ∧ af = [(2, bools G), (3, .int .i64 fuel), (4, .at c.av), (5, .at s.av), (8, .ref r1 0), (9, .ref r2 0), (10, .ref r3 0), (11, .ref r4 0), (12, .ref b 0), (15, .ref B.mb 0), (16, .str p.1), (78, .ref it 0), (112, .sl (r.Tuples.map ints)), (113, .int .i64 (r.Tuples.map ints).length), (114, .int .i64 j)] ∧ h = Own.iter it bs (checkedP c).gS.clk (seenOf (checkedP c).gS (idx ++ [k])) :: ((checkedP c).ah b ba bs gA ++ resAH r1 r2 r3 r4 false 0 0 0) ++ (msr c (upd rl p.1 cur)).ah ⟨s.Size, G, fuel⟩ B2 ∧ cur.length = (powerR s.Size r.Arity).1.toNat ∧ tabGo s.Size r.Tuples (List.replicate (powerR s.Size r.Arity).1.toNat false) = tabGo s.Size (r.Tuples.drop j) cur) r.Tuples.length ⟨0, _, Nat.zero_le _, rfl, rfl, rfl, List.length_replicate .., rfl⟩ ?_)
  rintro m af h ⟨j, cur, hj, rfl, rfl, rfl, hcl, he⟩
  refine AW.seq ?_
  by_cases hlt : j < r.Tuples.length
  · obtain ⟨t, ht⟩ := get_lt hlt
    have ht' : (r.Tuples.map ints)[((j : Nat) : Int).toNat]? = some (ints t) := map_get ht
    have htm := List.mem_of_getElem? ht
    rw [drop_cons ht, tabGo] at he
    have hrk := shape_Rank s.Size t (htup t htm)
    have hbd2 := rank_bd v1 v2 hrb htm
    have hcl2 : ((upd rl p.1 cur p.1).length : Int) = s.Size ^ r.Arity.toNat := by rw [upd_same, hcl, hpv.1, Int.toNat_of_nonneg hpv.2.2]
    obtain ⟨jr, hjr, hrow⟩ := row_at ⟨s.Size, G, fuel⟩ B2 (msr c (upd rl p.1 cur)) hin
    have hlk2 := look_rel B2 (msr c (upd rl p.1 cur)) hin
    have hrow' : (Own.iter it bs (checkedP c).gS.clk (seenOf (checkedP c).gS (idx ++ [k])) :: ((checkedP c).ah b ba bs gA ++ resAH r1 r2 r3 r4 false 0 0 0) ++ (msr c (upd rl p.1 cur)).ah ⟨s.Size, G, fuel⟩ B2)[jr + 13]? = some (.row (B2.bk p.1) ((upd rl p.1 cur p.1).map bav)) := hrow
    rw [hmb2.symm]
    repeat' (first
      | refine AW.seq ?_
      | (refine AW.region_at 19 ?_ <;> (first | refine AL.ev rfl rfl rfl rfl ?_ | refine AL.det (AOp.add rfl rfl (by omega)) rfl rfl rfl ?_ | refine AL.det (AOp.sub rfl rfl (by omega)) rfl rfl rfl ?_ | refine AL.det (AOp.bool_eq (by kernel_rfl) rfl rfl) rfl rfl rfl ?_ | refine AL.det (AOp.bool_ne (by kernel_rfl) rfl rfl) rfl rfl rfl ?_) <;> refine AL.nil ?_)
      | (refine AW.region_at 20 ?_ <;> (first | refine AL.det (AOp.index_sl rfl rfl (by omega) ht' (by kernel_rfl) rfl) rfl rfl rfl ?_ | (refine AL.det (AOp.index_osl rfl rfl (by omega) (by show (rankR s.Size t).1 < ((upd rl p.1 cur p.1).length : Int); omega) (by kernel_rfl)) rfl rfl rfl ?_)) <;> (first | refine AL.det (AOp.load_at rfl rfl (by kernel_rfl)) rfl rfl rfl ?_ | refine AL.det (AOp.load_leaf 0 rfl rfl rfl rfl (by kernel_rfl)) rfl rfl rfl ?_ | refine AL.det (AOp.load_all 0 rfl rfl rfl (by kernel_rfl)) rfl rfl rfl ?_ | refine AL.det (AOp.load_leaf 1 rfl rfl rfl rfl (by kernel_rfl)) rfl rfl rfl ?_ | refine AL.det (AOp.load_all 1 rfl rfl rfl (by kernel_rfl)) rfl rfl rfl ?_ | refine AL.det (AOp.load_leaf 2 rfl rfl rfl rfl (by kernel_rfl)) rfl rfl rfl ?_ | refine AL.det (AOp.load_all 2 rfl rfl rfl (by kernel_rfl)) rfl rfl rfl ?_ | refine AL.det (AOp.load_leaf 3 rfl rfl rfl rfl (by kernel_rfl)) rfl rfl rfl ?_ | refine AL.det (AOp.load_all 3 rfl rfl rfl (by kernel_rfl)) rfl rfl rfl ?_ | refine AL.det (AOp.load_leaf 4 rfl rfl rfl rfl (by kernel_rfl)) rfl rfl rfl ?_ | refine AL.det (AOp.load_all 4 rfl rfl rfl (by kernel_rfl)) rfl rfl rfl ?_ | refine AL.det (AOp.load_leaf 5 rfl rfl rfl rfl (by kernel_rfl)) rfl rfl rfl ?_ | refine AL.det (AOp.load_all 5 rfl rfl rfl (by kernel_rfl)) rfl rfl rfl ?_ | refine AL.det (AOp.load_leaf 6 rfl rfl rfl rfl (by kernel_rfl)) rfl rfl rfl ?_ | refine AL.det (AOp.load_all 6 rfl rfl rfl (by kernel_rfl)) rfl rfl rfl ?_ | refine AL.det (AOp.load_leaf 7 rfl rfl rfl rfl (by kernel_rfl)) rfl rfl rfl ?_ | refine AL.det (AOp.load_all 7 rfl rfl rfl (by kernel_rfl)) rfl rfl rfl ?_ | refine AL.det (AOp.load_leaf 8 rfl rfl rfl rfl (by kernel_rfl)) rfl rfl rfl ?_ | refine AL.det (AOp.load_all 8 rfl rfl rfl (by kernel_rfl)) rfl rfl rfl ?_) <;> refine AL.ev rfl rfl rfl rfl ?_ <;> refine AL.nil ?_)
      | (refine AW.region_at 21 ?_ <;> (first | refine AL.det (AOp.field_at rfl rfl (by kernel_rfl) rfl) rfl rfl rfl ?_ | refine AL.det (AOp.field_ref (off := 0) rfl (by kernel_rfl)) rfl rfl rfl ?_) <;> (first | refine AL.det (AOp.load_at rfl rfl (by kernel_rfl)) rfl rfl rfl ?_ | refine AL.det (AOp.load_leaf 0 rfl rfl rfl rfl (by kernel_rfl)) rfl rfl rfl ?_ | refine AL.det (AOp.load_all 0 rfl rfl rfl (by kernel_rfl)) rfl rfl rfl ?_ | refine AL.det (AOp.load_leaf 1 rfl rfl rfl rfl (by kernel_rfl)) rfl rfl rfl ?_ | refine AL.det (AOp.load_all 1 rfl rfl rfl (by kernel_rfl)) rfl rfl rfl ?_ | refine AL.det (AOp.load_leaf 2 rfl rfl rfl rfl (by kernel_rfl)) rfl rfl rfl ?_ | refine AL.det (AOp.load_all 2 rfl rfl rfl (by kernel_rfl)) rfl rfl rfl ?_ | refine AL.det (AOp.load_leaf 3 rfl rfl rfl rfl (by kernel_rfl)) rfl rfl rfl ?_ | refine AL.det (AOp.load_all 3 rfl rfl rfl (by kernel_rfl)) rfl rfl rfl ?_ | refine AL.det (AOp.load_leaf 4 rfl rfl rfl rfl (by kernel_rfl)) rfl rfl rfl ?_ | refine AL.det (AOp.load_all 4 rfl rfl rfl (by kernel_rfl)) rfl rfl rfl ?_ | refine AL.det (AOp.load_leaf 5 rfl rfl rfl rfl (by kernel_rfl)) rfl rfl rfl ?_ | refine AL.det (AOp.load_all 5 rfl rfl rfl (by kernel_rfl)) rfl rfl rfl ?_ | refine AL.det (AOp.load_leaf 6 rfl rfl rfl rfl (by kernel_rfl)) rfl rfl rfl ?_ | refine AL.det (AOp.load_all 6 rfl rfl rfl (by kernel_rfl)) rfl rfl rfl ?_ | refine AL.det (AOp.load_leaf 7 rfl rfl rfl rfl (by kernel_rfl)) rfl rfl rfl ?_ | refine AL.det (AOp.load_all 7 rfl rfl rfl (by kernel_rfl)) rfl rfl rfl ?_ | refine AL.det (AOp.load_leaf 8 rfl rfl rfl rfl (by kernel_rfl)) rfl rfl rfl ?_ | refine AL.det (AOp.load_all 8 rfl rfl rfl (by kernel_rfl)) rfl rfl rfl ?_) <;> refine AL.ev rfl rfl rfl rfl ?_ <;> refine AL.det (AOp.call rfl rfl (hrk.pure _)) rfl rfl rfl ?_ <;> refine AL.ev rfl rfl rfl rfl ?_ <;> refine AL.ev rfl rfl rfl rfl ?_ <;> refine AL.ev rfl rfl rfl rfl ?_ <;> refine AL.ev rfl rfl rfl rfl ?_ <;> refine AL.ev rfl rfl rfl rfl ?_ <;> refine AL.nil ?_)
      | (refine AW.region_at 22 ?_ <;> refine AL.ev rfl rfl rfl rfl ?_ <;> refine AL.ev rfl rfl rfl rfl ?_ <;> (first | refine AL.det (AOp.field_at rfl rfl (by kernel_rfl) rfl) rfl rfl rfl ?_ | refine AL.det (AOp.field_ref (off := 3) rfl (by kernel_rfl)) rfl rfl rfl ?_) <;> (first | refine AL.det (AOp.load_at rfl rfl (by kernel_rfl)) rfl rfl rfl ?_ | refine AL.det (AOp.load_leaf 0 rfl rfl rfl rfl (by kernel_rfl)) rfl rfl rfl ?_ | refine AL.det (AOp.load_all 0 rfl rfl rfl (by kernel_rfl)) rfl rfl rfl ?_ | refine AL.det (AOp.load_leaf 1 rfl rfl rfl rfl (by kernel_rfl)) rfl rfl rfl ?_ | refine AL.det (AOp.load_all 1 rfl rfl rfl (by kernel_rfl)) rfl rfl rfl ?_ | refine AL.det (AOp.load_leaf 2 rfl rfl rfl rfl (by kernel_rfl)) rfl rfl rfl ?_ | refine AL.det (AOp.load_all 2 rfl rfl rfl (by kernel_rfl)) rfl rfl rfl ?_ | refine AL.det (AOp.load_leaf 3 rfl rfl rfl rfl (by kernel_rfl)) rfl rfl rfl ?_ | refine AL.det (AOp.load_all 3 rfl rfl rfl (by kernel_rfl)) rfl rfl rfl ?_ | refine AL.det (AOp.load_leaf 4 rfl rfl rfl rfl (by kernel_rfl)) rfl rfl rfl ?_ | refine AL.det (AOp.load_all 4 rfl rfl rfl (by kernel_rfl)) rfl rfl rfl ?_ | refine AL.det (AOp.load_leaf 5 rfl rfl rfl rfl (by kernel_rfl)) rfl rfl rfl ?_ | refine AL.det (AOp.load_all 5 rfl rfl rfl (by kernel_rfl)) rfl rfl rfl ?_ | refine AL.det (AOp.load_leaf 6 rfl rfl rfl rfl (by kernel_rfl)) rfl rfl rfl ?_ | refine AL.det (AOp.load_all 6 rfl rfl rfl (by kernel_rfl)) rfl rfl rfl ?_ | refine AL.det (AOp.load_leaf 7 rfl rfl rfl rfl (by kernel_rfl)) rfl rfl rfl ?_ | refine AL.det (AOp.load_all 7 rfl rfl rfl (by kernel_rfl)) rfl rfl rfl ?_ | refine AL.det (AOp.load_leaf 8 rfl rfl rfl rfl (by kernel_rfl)) rfl rfl rfl ?_ | refine AL.det (AOp.load_all 8 rfl rfl rfl (by kernel_rfl)) rfl rfl rfl ?_) <;> refine AL.ev rfl rfl rfl rfl ?_ <;> refine AL.det (AOp.lookS_hit (g := oslv) (ok := false) 11 29 hlk2 rfl rfl rfl (by kernel_rfl)) rfl rfl rfl ?_ <;> refine AL.ev rfl rfl rfl rfl ?_ <;> (first | refine AL.det (AOp.index_sl rfl rfl (by omega) ht' (by kernel_rfl) rfl) rfl rfl rfl ?_ | (refine AL.det (AOp.index_osl rfl rfl (by omega) (by show (rankR s.Size t).1 < ((upd rl p.1 cur p.1).length : Int); omega) (by kernel_rfl)) rfl rfl rfl ?_)) <;> (first | (refine AL.store_cell (jr + 13) rfl rfl hrow' (by simp; omega) rfl rfl (by kernel_rfl) ?_) | refine AL.store_leaf 0 rfl rfl rfl rfl rfl (by kernel_rfl) ?_ | refine AL.store_leaf 1 rfl rfl rfl rfl rfl (by kernel_rfl) ?_ | refine AL.store_leaf 2 rfl rfl rfl rfl rfl (by kernel_rfl) ?_ | refine AL.store_leaf 3 rfl rfl rfl rfl rfl (by kernel_rfl) ?_ | refine AL.store_leaf 4 rfl rfl rfl rfl rfl (by kernel_rfl) ?_ | refine AL.store_leaf 5 rfl rfl rfl rfl rfl (by kernel_rfl) ?_ | refine AL.store_leaf 6 rfl rfl rfl rfl rfl (by kernel_rfl) ?_ | refine AL.store_leaf 7 rfl rfl rfl rfl rfl (by kernel_rfl) ?_ | refine AL.store_leaf 8 rfl rfl rfl rfl rfl (by kernel_rfl) ?_) <;> refine AL.nil ?_)
      | refine AW.cond_true rfl ?_
      | refine AW.cond_false rfl ?_
      | refine AW.block ?_
      | refine AW.endblk ?_
      | refine AW.skip ?_
      | refine AW.exit rfl ?_
      | refine AW.label ?_
      | refine AW.cond rfl (fun hb => ?_) (fun hb => ?_))
    all_goals try (exfalso; simp only [decide_eq_true_eq, decide_eq_false_iff_not, List.length_map] at *; omega)
    have hset : (Own.iter it bs (checkedP c).gS.clk (seenOf (checkedP c).gS (idx ++ [k])) :: ((checkedP c).ah b ba bs gA ++ resAH r1 r2 r3 r4 false 0 0 0) ++ (msr c (upd rl p.1 cur)).ah ⟨s.Size, G, fuel⟩ B2).set (jr + 13) (.row (B2.bk p.1) (((upd rl p.1 cur p.1).map bav).set (rankR s.Size t).1.toNat (.bool true))) = Own.iter it bs (checkedP c).gS.clk (seenOf (checkedP c).gS (idx ++ [k])) :: ((checkedP c).ah b ba bs gA ++ resAH r1 r2 r3 r4 false 0 0 0) ++ (msr c (upd rl p.1 (cur.set (rankR s.Size t).1.toNat true))).ah ⟨s.Size, G, fuel⟩ B2 := by
      have h1 := ah_setrow ⟨s.Size, G, fuel⟩ B2 (msr c (upd rl p.1 cur)) hnd2 hjr ((upd rl p.1 cur p.1).set (rankR s.Size t).1.toNat true) (by simp [msr])
      rw [List.map_set] at h1
      have h2 : ({ msr c (upd rl p.1 cur) with rels := upd (msr c (upd rl p.1 cur)).rels p.1 ((upd rl p.1 cur p.1).set (rankR s.Size t).1.toNat true) } : MS) = msr c (upd rl p.1 (cur.set (rankR s.Size t).1.toNat true)) := by
        simp only [msr, upd_upd, upd_same]
      rw [h2] at h1
      rw [← h1]
      rfl
    refine AW.frame_eq rfl hset ?_
    repeat' (first
      | refine AW.seq ?_
      | (refine AW.region_at 23 ?_ <;> (first | refine AL.ev rfl rfl rfl rfl ?_ | refine AL.det (AOp.add rfl rfl (by omega)) rfl rfl rfl ?_ | refine AL.det (AOp.sub rfl rfl (by omega)) rfl rfl rfl ?_ | refine AL.det (AOp.bool_eq (by kernel_rfl) rfl rfl) rfl rfl rfl ?_ | refine AL.det (AOp.bool_ne (by kernel_rfl) rfl rfl) rfl rfl rfl ?_) <;> refine AL.ev rfl rfl rfl rfl ?_ <;> refine AL.nil ?_)
      | refine AW.cond_true rfl ?_
      | refine AW.cond_false rfl ?_
      | refine AW.block ?_
      | refine AW.endblk ?_
      | refine AW.skip ?_
      | refine AW.exit rfl ?_
      | refine AW.label ?_
      | refine AW.cond rfl (fun hb => ?_) (fun hb => ?_))
    exact AW.again_keep (r.Tuples.length - (j + 1)) [2, 3, 4, 5, 8, 9, 10, 11, 12, 15, 16, 78, 112, 113, 114] (by omega) ⟨j + 1, _, hlt, rfl, rfl, rfl, by rw [List.length_set]; exact hcl, he⟩
  · rw [List.drop_eq_nil_of_le (by omega), tabGo] at he
    repeat' (first
      | refine AW.seq ?_
      | (refine AW.region_at 19 ?_ <;> (first | refine AL.ev rfl rfl rfl rfl ?_ | refine AL.det (AOp.add rfl rfl (by omega)) rfl rfl rfl ?_ | refine AL.det (AOp.sub rfl rfl (by omega)) rfl rfl rfl ?_ | refine AL.det (AOp.bool_eq (by kernel_rfl) rfl rfl) rfl rfl rfl ?_ | refine AL.det (AOp.bool_ne (by kernel_rfl) rfl rfl) rfl rfl rfl ?_) <;> refine AL.nil ?_)
      | refine AW.cond_true rfl ?_
      | refine AW.cond_false rfl ?_
      | refine AW.block ?_
      | refine AW.endblk ?_
      | refine AW.skip ?_
      | refine AW.exit rfl ?_
      | refine AW.label ?_
      | refine AW.cond rfl (fun hb => ?_) (fun hb => ?_))
    all_goals try (exfalso; simp only [decide_eq_true_eq, decide_eq_false_iff_not, List.length_map] at *; omega)
    have htab : cur = symR s (checkedP c) p.1 := by
      simp only [symR, hlk, tableR, hr]
      exact he.symm
    refine AW.again_keep ((checkedP c).S.length - (idx ++ [k]).length) [2, 3, 4, 5, 8, 9, 10, 11, 12, 15, 78] (by simp only [List.length_append, List.length_singleton]; omega) ⟨idx ++ [k], B2, upd rl p.1 cur, nodup_snoc hnd hk1, ?_, rfl, rfl, rfl, hmb2, hnd2, ?_, ?_, ?_⟩
    · intro j hj; rcases List.mem_append.1 hj with h | h; exact hbd j h; simp at h; omega
    · intro x
      rw [hnm2, List.mem_append, hnm']
      constructor
      · rintro (⟨j, hj, q, hq, e⟩ | h)
        · exact ⟨j, List.mem_append_left _ hj, q, hq, e⟩
        · simp at h; exact ⟨k, by simp, p, hp, h.symm⟩
      · rintro ⟨j, hj, q, hq, e⟩
        rcases List.mem_append.1 hj with h | h
        · exact .inl ⟨j, h, q, hq, e⟩
        · simp at h; subst h; rw [hp] at hq; cases hq; exact .inr (by simp [e])
    · intro x hx
      by_cases e : x = p.1
      · subst e; rw [upd_same]; exact htab
      · rw [upd_ne _ _ e]
        rw [hnm2] at hx
        exact hrl1 x (by simpa [e] using hx)
    · intro x hx
      rw [hnm2] at hx
      simp only [List.mem_append, List.mem_singleton, not_or] at hx
      rw [upd_ne _ _ hx.2]
      exact hrl2 x hx.1
end Go.Proofs.Ytdedkpfbfklgbaa
