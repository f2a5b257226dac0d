/- Contracts of the functions, part 4. -/
import Derived.Test.YtkolalhekgmmdaaGreatA3
import Derived.Test.YtkolalhekgmmdaaGreatA3
import Derived.Test.YtkolalhekgmmdaaGreatS2
import Derived.Test.YtkolalhekgmmdaaGreatA2
import Derived.Shelf.SlIter.Sorted
import Derived.Shelf.SlIter.Collect
import Derived.Shelf.SortM.Plain
import Derived.Shelf.SortM.SortNone
import Derived.Test.YtkolalhekgmmdaaGreatS3
import Derived.Test.YtkolalhekgmmdaaGreatA1
import Derived.Test.YtkolalhekgmmdaaGreatProg
namespace Go.Proofs.YtkolalhekgmmdaaGreat
open Go.RowKit Go.SX
set_option maxRecDepth 100000
set_option maxHeartbeats 4000000
set_option linter.unusedVariables false
set_option linter.unusedSimpArgs false
theorem upd_upd (f : ByteArray → List Bool) (k : ByteArray) (xs ys : List Bool) : upd (upd f k xs) k ys = upd f k ys := by
  funext a
  by_cases h : a = k
  · subst h; simp [upd_same]
  · simp [upd_ne _ _ h]
theorem look_mem {A : List (ByteArray × Int)} (hn : (A.map (·.1)).Nodup) {p : ByteArray × Int} (h : p ∈ A) : lookA A p.1 = some p.2 := by
  induction A with
  | nil => cases h
  | cons q A ih =>
    obtain ⟨k', w⟩ := q
    simp only [List.map_cons, List.nodup_cons] at hn
    rw [lookA]
    rcases List.mem_cons.1 h with rfl | h
    · simp
    · have hne : ¬ p.1 = k' := fun e => hn.1 (e ▸ List.mem_map_of_mem h)
      rw [if_neg hne, ih hn.2 h]
theorem look_none {A : List (ByteArray × Int)} {k : ByteArray} (h : k ∉ A.map (·.1)) : lookA A k = none := by
  cases e : lookA A k with
  | none => rfl
  | some n => exact (h (List.mem_map_of_mem (sym_mem e))).elim
theorem run_t6 (c : GCode) (s : GStr) (G : List Bool) (fuel : Int) (hc : c.Ok) (hs : s.Ok) (hG : G.length ≤ 4611686018427387904) (hbad : (checkedP c).bad = false) (hval : validStr s = true) (hfound : ∀ p ∈ (checkedP c).S, 0 ≤ findI s p.1 p.2) (hf : 0 ≤ fuel ∧ fuel ≤ 10000000) (hck : ChkOk c) (b ba bs r1 r2 r3 r4 : Nat) (gA : MG) (B : Blk)
    (hB : B.names = []) (Fr : Rg) (w0 : World) :
    AW (CofD Tryz.prog Tryz.f12 179 Fr (reg []) w0 (RunPost c s G fuel)) [] [.c (fst1 (fst1 (sndN 6 (bodyOf Tryz.f12)))), .c (sndN 1 (fst1 (sndN 6 (bodyOf Tryz.f12)))), .c (sndN 7 (bodyOf Tryz.f12))] (runAF c s G fuel b r1 r2 r3 r4 B.mb) ((checkedP c).ah b ba bs gA ++ resAH r1 r2 r3 r4 false 0 0 0 ++ (msr c fun _ => []).ah ⟨s.Size, G, fuel⟩ B) := by
  obtain ⟨v1, v2, v3⟩ := valid_rel hval
  have hrl : s.Rels.length ≤ 4611686018427387904 := by obtain ⟨_, h2, _⟩ := hs; omega
  have hs3 := hs.2.2
  repeat' (first | (refine xS 12 2 ?_; (first | refine AL.d AOp.fa ?_ | refine AL.d (AOp.fr 5) ?_) <;> (first | refine AL.d AOp.la ?_ | refine AL.d (AOp.ll 0) ?_ | refine AL.d (AOp.ll 1) ?_ | refine AL.d (AOp.ll 2) ?_ | refine AL.d (AOp.ll 3) ?_ | refine AL.d (AOp.ll 4) ?_ | refine AL.d (AOp.ll 5) ?_ | refine AL.d (AOp.ll 6) ?_) <;> refine AL.range 2 3 .string rfl rfl (by kernel_rfl) rfl fun it => ?_ <;> refine AL.nil ?_) | refine AW.jt ?_ | refine AW.jf ?_ | refine AW.jj (fun hb => ?_) (fun hb => ?_) | refine AW.go ?_ | fail)
  refine AW.prune [2, 3, 4, 5, 8, 9, 10, 11, 12, 15, 78] (AW.loop (fun m af h => ∃ (idx : List Nat) (B' : Blk) (rl : ByteArray → List Bool), idx.Nodup ∧ (∀ k ∈ idx, k < (checkedP c).S.length) ∧ m = (checkedP c).S.length - idx.length ∧ af = runAF c s G fuel b r1 r2 r3 r4 B.mb ++ [(78, .ref it 0)] ∧ h = .iter it bs (checkedP c).gS.clk (seenOf (checkedP c).gS idx) :: ((checkedP c).ah b ba bs gA ++ resAH r1 r2 r3 r4 false 0 0 0 ++ (msr c rl).ah ⟨s.Size, G, fuel⟩ B') ∧ B'.mb = B.mb ∧ B'.names.Nodup ∧ (∀ k, k ∈ B'.names ↔ ∃ j ∈ idx, ∃ p, (checkedP c).S[j]? = some p ∧ p.1 = k) ∧ (∀ k ∈ B'.names, rl k = symR s (checkedP c) k) ∧ ∀ k, k ∉ B'.names → rl k = []) (checkedP c).S.length ⟨[], B, fun _ => [], List.nodup_nil, by simp, by simp, rfl, rfl, rfl, by rw [hB]; exact List.nodup_nil, by rw [hB]; simp, by rw [hB]; simp, fun _ _ => rfl⟩ ?_)
  rintro m af h ⟨idx, B', rl, hnd, hbd, rfl, rfl, rfl, hmb, hnd', hnm', hrl1, hrl2⟩
  refine AW.seq ?_
  have hbd' : ∀ k ∈ idx, k < (kvW iav (checkedP c).S).length := by rw [kvW_length]; exact hbd
  repeat' (first | (refine AW.r 13 ?_; refine AL.next 3 0 idx rfl rfl rfl hbd' rfl (fun hall => ?_) (fun k key v hk1 hk2 => ?_) <;> refine AL.es 1 ?_ <;> refine AL.nil ?_) | refine AW.jt ?_ | refine AW.jf ?_ | refine AW.jj (fun hb => ?_) (fun hb => ?_) | refine AW.go ?_ | fail)
  · have hall' : ∀ k, k ∈ B'.names ↔ k ∈ (checkedP c).S.map (·.1) := by
      intro k
      rw [hnm']
      constructor
      · rintro ⟨j, _, p, hp, rfl⟩; exact List.mem_map_of_mem (lG hp)
      · intro h
        obtain ⟨p, hp, rfl⟩ := List.mem_map.1 h
        obtain ⟨j, hj⟩ := List.getElem?_of_mem hp
        exact ⟨j, hall j (by rw [kvW_length]; exact (List.getElem?_eq_some_iff.1 hj).1), p, hj, rfl⟩
    have e : rl = symR s (checkedP c) := by
      funext k
      by_cases h : k ∈ B'.names
      · exact hrl1 k h
      · rw [hrl2 k h, symR, look_none (fun h' => h ((hall' k).2 h'))]
    subst e
    refine AW.drop (List.sublist_cons_self _ _) ?_
    have h7 := run_t7 c s G fuel hc hG hbad hval hfound hf hck b ba bs r1 r2 r3 r4 gA B' hnd' hall' Fr w0
    rw [hmb] at h7
    exact AW.prune [2, 3, 4, 5, 8, 9, 10, 11, 12, 15] h7
  obtain ⟨p, hp, rfl, rfl⟩ := kvW_get hk2
  have hpm := lG hp
  have hpl : k < (checkedP c).S.length := (List.getElem?_eq_some_iff.1 hp).1
  have hfi := shape_Find s hrl p.1 p.2
  have hlk := look_mem hck.keys hpm
  obtain ⟨r, hr, hr1, hr2, hr3⟩ := find_rel (hfound p hpm)
  have hr' : (s.Rels.map GRel.av)[(findI s p.1 p.2).toNat]? = some r.av := map_get hr
  have hrm := lG hr
  have hrb := v3 r hrm
  have hro := hs3 r hrm
  have hf0 := hfound p hpm
  have hlen := nodup_bound (checkedP c).S.length (idx ++ [k]) (nodup_snoc hnd hk1) (by intro j hj; rcases List.mem_append.1 hj with h | h; exact hbd j h; simp at h; omega)
  simp only [lA, List.length_singleton] at hlen
  repeat' (first | (refine AW.r 14 ?_; refine AL.d (AOp.entry (i := 3) (j := 0) (k := k) rfl rfl rfl hk2) ?_; refine xN 2 ?_) | refine AW.jt ?_ | refine AW.jf ?_ | refine AW.jj (fun hb => ?_) (fun hb => ?_) | refine AW.go ?_ | fail)
  refine AW.prune [2, 3, 4, 5, 8, 9, 10, 11, 12, 15, 16, 78] ?_
  refine AW.explore [] [13, 14] rfl (by kernel_rfl) (by kernel_rfl) (by kernel_rfl) (by kernel_rfl) ?_
  repeat' (first
    | refine AQE.hole rfl rfl ?_
    | refine AQE.ev rfl rfl rfl rfl ?_
    | refine AQE.op rfl (AOp.field_at rfl rfl (by kernel_rfl) rfl) rfl rfl ?_
    | refine AQE.op rfl (AOp.field_ref (k := 2) (off := 5) rfl (by kernel_rfl)) rfl rfl ?_
    | refine AQE.op rfl (AOp.load_at rfl rfl (by kernel_rfl)) rfl rfl ?_
    | refine AQE.op rfl (AOp.load_leaf 1 rfl rfl rfl rfl (by kernel_rfl)) rfl rfl ?_
    | refine AQE.op rfl (AOp.lookS_hit (g := iav) (ok := false) 3 3 hlk rfl rfl rfl (by kernel_rfl)) rfl rfl ?_
    | refine AQE.op rfl (AOp.call rfl rfl (hfi.pure _)) rfl rfl ?_
    | refine AQE.op rfl (iX hr') rfl rfl ?_
    | refine AQE.nil ?_)
  refine AX.one (n := 1) 13 rfl ?_
  refine AXS.new (i := 13) rfl rfl rfl (AOp.alloc (t := 35) (z := .st [.str ⟨#[]⟩, .int .i64 0, .sl []]) (by kernel_rfl) rfl) (fun br => ?_)
  dsimp only [sA, sB]
  refine AX.one (n := 0) 14 rfl ?_
  refine AXS.step (i := 14) rfl rfl rfl (AOp.store_box (i := 0) (g := true) (v := r.av) (c' := r.av) rfl rfl rfl rfl rfl (by kernel_rfl)) ?_ (by rintro _ _ ⟨⟨_, e⟩, _⟩; cases e)
  rintro _ _ ⟨⟨_, e⟩, rfl⟩
  dsimp only [sA, sB]
  refine AX.done [(2, bools G), (3, .int .i64 fuel), (4, .at c.av), (5, .at s.av), (8, .ref r1 0), (9, .ref r2 0), (10, .ref r3 0), (11, .ref r4 0), (12, .ref b 0), (15, .ref B.mb 0), (16, .str p.1), (17, .ref br 0), (78, .ref it 0)] rfl ?_
  refine AW.freeze 0 17 (b := br) (c := r.av) rfl rfl ?_
  refine AW.frame_eq (ah' := Own.iter it bs (checkedP c).gS.clk (seenOf (checkedP c).gS (idx ++ [k])) :: ((checkedP c).ah b ba bs gA ++ resAH r1 r2 r3 r4 false 0 0 0 ++ (msr c rl).ah ⟨s.Size, G, fuel⟩ B')) rfl rfl ?_
  clear e
  have hpw := shape_Power s.Size r.Arity
  have hp0 := rel_power v1 v2 hrb
  have hpv := power_val hp0.1
  have hVx : (some (AV.int .i64 (powerR s.Size r.Arity).1)) = some (AV.int .i64 ((powerR s.Size r.Arity).1.toNat : Nat)) := by rw [Int.toNat_of_nonneg (by rw [hpv.1]; exact hpv.2.2)]
  have hVb : (powerR s.Size r.Arity).1.toNat ≤ 4096 := by rw [hpv.1]; omega
  have hnew : p.1 ∉ B'.names := by
    rw [hnm']
    rintro ⟨j, hj, q, hq, e⟩
    have hjl : j < (checkedP c).S.length := (List.getElem?_eq_some_iff.1 hq).1
    have : j = k := (List.getElem?_inj (l := (checkedP c).S.map (·.1)) (by simpa using hjl) hck.keys).1 (by simp [hq, hp, e])
    subst this
    exact hk1 hj
  repeat' (first | (refine xS 16 4 ?_; refine AL.d (AOp.call rfl rfl (hpw.pure _)) ?_; refine xN 5 ?_) | refine AW.jt ?_ | refine AW.jf ?_ | refine AW.jj (fun hb => ?_) (fun hb => ?_) | refine AW.go ?_ | fail)
  refine AW.prune [2, 3, 4, 5, 8, 9, 10, 11, 12, 15, 16, 17, 18, 78] ?_
  have hmbx : (some (AV.ref B.mb 0)) = some (AV.ref B'.mb 0) := by rw [hmb]
  refine AW.explore [false, false, false, false, false, false, false, false, false, false, false, true] [6, 7] rfl (by kernel_rfl) (by kernel_rfl) (by kernel_rfl) (by kernel_rfl) ?_
  refine AQE.ev rfl (show evalOp _ _ = some (AV.ref B'.mb 0) from hmbx) rfl rfl ?_
  repeat' (first
    | refine AQE.hole rfl rfl ?_
    | refine AQE.ev rfl rfl rfl rfl ?_
    | refine AQE.op rfl (AOp.field_ref (k := 3) (off := 3) rfl (by kernel_rfl)) rfl rfl ?_
    | refine AQE.op rfl (AOp.load_leaf 8 rfl rfl rfl rfl (by kernel_rfl)) rfl rfl ?_
    | refine AQE.nil ?_)
  refine AX.one (n := 1) 6 rfl ?_
  refine AXS.new (i := 6) rfl rfl rfl (AOp.makeSlice (n := (powerR s.Size r.Arity).1.toNat) (e := 4) (c := .bool false) (z := .bool false) (bytes := 1) hVx hVx (by kernel_rfl) rfl (by omega) (by omega)) (fun nb => ?_)
  dsimp only [sA, sB]
  refine AX.one (n := 0) 7 rfl ?_
  refine AXS.step (i := 7) rfl rfl rfl (AOp.mapUpdate (i := 1) (kd := .string) (e := 78) (k := .str p.1) (v := .osl nb (powerR s.Size r.Arity).1.toNat (powerR s.Size r.Arity).1.toNat) rfl rfl rfl rfl (by kernel_rfl) rfl (keysOK_kvW _ _)) ?_ (by rintro _ _ ⟨⟨_, e⟩, _⟩; cases e)
  rintro _ _ ⟨⟨_, e⟩, rfl⟩
  dsimp only [sA, sB]
  refine AX.done [(2, bools G), (3, .int .i64 fuel), (4, .at c.av), (5, .at s.av), (8, .ref r1 0), (9, .ref r2 0), (10, .ref r3 0), (11, .ref r4 0), (12, .ref b 0), (15, .ref B.mb 0), (16, .str p.1), (17, .at r.av), (78, .ref it 0)] rfl ?_
  clear e
  refine AW.perm (ah_new ⟨s.Size, G, fuel⟩ B' (msr c rl) (Own.iter it bs (checkedP c).gS.clk (seenOf (checkedP c).gS (idx ++ [k])) :: ((checkedP c).ah b ba bs gA ++ resAH r1 r2 r3 r4 false 0 0 0)) hnew nb (List.replicate (powerR s.Size r.Arity).1.toNat false) _ (List.length_replicate ..).symm _ (List.map_replicate ..).symm) ?_
  generalize hB2 : B'.add p.1 nb _ = B2
  have hmb2 : B2.mb = B.mb := by rw [← hB2]; exact hmb
  have hnm2 : B2.names = B'.names ++ [p.1] := by rw [← hB2]; rfl
  have hnd2 : B2.names.Nodup := by
    rw [hnm2, List.nodup_append]
    exact ⟨hnd', by simp, fun a ha b hb e => by simp at hb; subst hb; subst e; exact hnew ha⟩
  clear hB2
  have hin : p.1 ∈ B2.names := by rw [hnm2]; simp
  have htl : r.Tuples.length ≤ 4611686018427387904 := by have := hro.2.2.1; omega
  have htup : ∀ t ∈ r.Tuples, t.length ≤ 4611686018427387904 := fun t ht => by have := (hro.2.2.2 t ht).1; omega
  repeat' (first | refine AW.re 18 4 ?_ | refine AW.jt ?_ | refine AW.jf ?_ | refine AW.jj (fun hb => ?_) (fun hb => ?_) | refine AW.go ?_ | fail)
  refine AW.prune [2, 3, 4, 5, 8, 9, 10, 11, 12, 15, 16, 78, 112, 113, 114] (AW.loop (fun m af h => ∃ (j : Nat) (cur : List Bool), j ≤ r.Tuples.length ∧ m = r.Tuples.length - j ∧ af = [(2, bools G), (3, .int .i64 fuel), (4, .at c.av), (5, .at s.av), (8, .ref r1 0), (9, .ref r2 0), (10, .ref r3 0), (11, .ref r4 0), (12, .ref b 0), (15, .ref B.mb 0), (16, .str p.1), (78, .ref it 0), (112, .sl (r.Tuples.map ints)), (113, .int .i64 (r.Tuples.map ints).length), (114, .int .i64 j)] ∧ h = Own.iter it bs (checkedP c).gS.clk (seenOf (checkedP c).gS (idx ++ [k])) :: ((checkedP c).ah b ba bs gA ++ resAH r1 r2 r3 r4 false 0 0 0) ++ (msr c (upd rl p.1 cur)).ah ⟨s.Size, G, fuel⟩ B2 ∧ cur.length = (powerR s.Size r.Arity).1.toNat ∧ tabGo s.Size r.Tuples (List.replicate (powerR s.Size r.Arity).1.toNat false) = tabGo s.Size (r.Tuples.drop j) cur) r.Tuples.length ⟨0, _, Nat.zero_le _, rfl, rfl, rfl, List.length_replicate .., rfl⟩ ?_)
  rintro m af h ⟨j, cur, hj, rfl, rfl, rfl, hcl, he⟩
  refine AW.seq ?_
  by_cases hlt : j < r.Tuples.length
  · obtain ⟨t, ht⟩ := get_lt hlt
    have ht' : (r.Tuples.map ints)[((j : Nat) : Int).toNat]? = some (ints t) := map_get ht
    have htm := lG ht
    rw [drop_cons ht, tabGo] at he
    have hrk := shape_Rank s.Size t (htup t htm)
    have hbd2 := rank_bd v1 v2 hrb htm
    have hcl2 : ((upd rl p.1 cur p.1).length : Int) = s.Size ^ r.Arity.toNat := by rw [upd_same, hcl, hpv.1, Int.toNat_of_nonneg hpv.2.2]
    obtain ⟨jr, hjr, hrow⟩ := row_at ⟨s.Size, G, fuel⟩ B2 (msr c (upd rl p.1 cur)) hin
    have hlk2 := look_rel B2 (msr c (upd rl p.1 cur)) hin
    have hrow' : (Own.iter it bs (checkedP c).gS.clk (seenOf (checkedP c).gS (idx ++ [k])) :: ((checkedP c).ah b ba bs gA ++ resAH r1 r2 r3 r4 false 0 0 0) ++ (msr c (upd rl p.1 cur)).ah ⟨s.Size, G, fuel⟩ B2)[jr + 13]? = some (.row (B2.bk p.1) ((upd rl p.1 cur p.1).map bav)) := hrow
    rw [hmb2.symm]
    repeat' (first | refine AW.re 19 1 ?_ | (refine AW.r 20 ?_; (first | refine AL.d (iX ht') ?_ | (refine AL.d (AOp.index_osl rfl rfl (by omega) (by show (rankR s.Size t).1 < ((upd rl p.1 cur p.1).length : Int); omega) (by kernel_rfl)) ?_)) <;> (first | refine AL.d AOp.la ?_ | refine AL.d (AOp.ll 0) ?_ | refine AL.d (AOp.ll 1) ?_ | refine AL.d (AOp.ll 2) ?_ | refine AL.d (AOp.ll 3) ?_ | refine AL.d (AOp.ll 4) ?_ | refine AL.d (AOp.ll 5) ?_ | refine AL.d (AOp.ll 6) ?_ | refine AL.d (AOp.ll 7) ?_ | refine AL.d (AOp.ll 8) ?_) <;> refine AL.es 1 ?_ <;> refine AL.nil ?_) | (refine AW.r 21 ?_; (first | refine AL.d AOp.fa ?_ | refine AL.d (AOp.fr 0) ?_) <;> (first | refine AL.d AOp.la ?_ | refine AL.d (AOp.ll 0) ?_ | refine AL.d (AOp.ll 1) ?_ | refine AL.d (AOp.ll 2) ?_ | refine AL.d (AOp.ll 3) ?_ | refine AL.d (AOp.ll 4) ?_ | refine AL.d (AOp.ll 5) ?_ | refine AL.d (AOp.ll 6) ?_ | refine AL.d (AOp.ll 7) ?_ | refine AL.d (AOp.ll 8) ?_) <;> refine AL.es 1 ?_ <;> refine AL.d (AOp.call rfl rfl (hrk.pure _)) ?_ <;> refine AL.es 5 ?_ <;> refine AL.nil ?_) | (refine xS 22 2 ?_; (first | refine AL.d AOp.fa ?_ | refine AL.d (AOp.fr 3) ?_) <;> (first | refine AL.d AOp.la ?_ | refine AL.d (AOp.ll 0) ?_ | refine AL.d (AOp.ll 1) ?_ | refine AL.d (AOp.ll 2) ?_ | refine AL.d (AOp.ll 3) ?_ | refine AL.d (AOp.ll 4) ?_ | refine AL.d (AOp.ll 5) ?_ | refine AL.d (AOp.ll 6) ?_ | refine AL.d (AOp.ll 7) ?_ | refine AL.d (AOp.ll 8) ?_) <;> refine AL.es 1 ?_ <;> refine AL.d (AOp.lookS_hit (g := oslv) (ok := false) 11 78 hlk2 rfl rfl rfl (by kernel_rfl)) ?_ <;> refine AL.es 1 ?_ <;> (first | refine AL.d (iX ht') ?_ | (refine AL.d (AOp.index_osl rfl rfl (by omega) (by show (rankR s.Size t).1 < ((upd rl p.1 cur p.1).length : Int); omega) (by kernel_rfl)) ?_)) <;> (first | (refine AL.store_cell (jr + 13) rfl rfl hrow' (by simp; omega) rfl rfl (by kernel_rfl) ?_) | refine AL.sl 0 ?_ | refine AL.sl 1 ?_ | refine AL.sl 2 ?_ | refine AL.sl 3 ?_ | refine AL.sl 4 ?_ | refine AL.sl 5 ?_ | refine AL.sl 6 ?_ | refine AL.sl 7 ?_ | refine AL.sl 8 ?_) <;> refine AL.nil ?_) | refine AW.jt ?_ | refine AW.jf ?_ | refine AW.jj (fun hb => ?_) (fun hb => ?_) | refine AW.go ?_ | fail)
    all_goals try (exfalso; simp only [dT, dF, lM] at *; omega)
    have hset : (Own.iter it bs (checkedP c).gS.clk (seenOf (checkedP c).gS (idx ++ [k])) :: ((checkedP c).ah b ba bs gA ++ resAH r1 r2 r3 r4 false 0 0 0) ++ (msr c (upd rl p.1 cur)).ah ⟨s.Size, G, fuel⟩ B2).set (jr + 13) (.row (B2.bk p.1) (((upd rl p.1 cur p.1).map bav).set (rankR s.Size t).1.toNat (.bool true))) = Own.iter it bs (checkedP c).gS.clk (seenOf (checkedP c).gS (idx ++ [k])) :: ((checkedP c).ah b ba bs gA ++ resAH r1 r2 r3 r4 false 0 0 0) ++ (msr c (upd rl p.1 (cur.set (rankR s.Size t).1.toNat true))).ah ⟨s.Size, G, fuel⟩ B2 := by
      have h1 := ah_setrow ⟨s.Size, G, fuel⟩ B2 (msr c (upd rl p.1 cur)) hnd2 hjr ((upd rl p.1 cur p.1).set (rankR s.Size t).1.toNat true) (by simp [msr])
      rw [List.map_set] at h1
      have h2 : ({ msr c (upd rl p.1 cur) with rels := upd (msr c (upd rl p.1 cur)).rels p.1 ((upd rl p.1 cur p.1).set (rankR s.Size t).1.toNat true) } : MS) = msr c (upd rl p.1 (cur.set (rankR s.Size t).1.toNat true)) := by
        simp only [msr, upd_upd, upd_same]
      rw [h2] at h1
      rw [← h1]
      rfl
    refine AW.frame_eq rfl hset ?_
    repeat' (first | (refine AW.r 23 ?_; refine AL.d AOp.ad ?_; refine xN 1 ?_) | refine AW.jt ?_ | refine AW.jf ?_ | refine AW.jj (fun hb => ?_) (fun hb => ?_) | refine AW.go ?_ | fail)
    exact AW.again_keep (r.Tuples.length - (j + 1)) [2, 3, 4, 5, 8, 9, 10, 11, 12, 15, 16, 78, 112, 113, 114] (by omega) ⟨j + 1, _, hlt, rfl, rfl, rfl, by rw [List.length_set]; exact hcl, he⟩
  · rw [List.drop_eq_nil_of_le (by omega), tabGo] at he
    repeat' (first | refine AW.re 19 1 ?_ | refine AW.jt ?_ | refine AW.jf ?_ | refine AW.jj (fun hb => ?_) (fun hb => ?_) | refine AW.go ?_ | fail)
    all_goals try (exfalso; simp only [dT, dF, lM] at *; omega)
    have htab : cur = symR s (checkedP c) p.1 := by
      simp only [symR, hlk, tableR, hr]
      exact he.symm
    refine AW.again_keep ((checkedP c).S.length - (idx ++ [k]).length) [2, 3, 4, 5, 8, 9, 10, 11, 12, 15, 78] (by simp only [lA, List.length_singleton]; omega) ⟨idx ++ [k], B2, upd rl p.1 cur, nodup_snoc hnd hk1, ?_, rfl, rfl, rfl, hmb2, hnd2, ?_, ?_, ?_⟩
    · intro j hj; rcases List.mem_append.1 hj with h | h; exact hbd j h; simp at h; omega
    · intro x
      rw [hnm2, List.mem_append, hnm']
      constructor
      · rintro (⟨j, hj, q, hq, e⟩ | h)
        · exact ⟨j, List.mem_append_left _ hj, q, hq, e⟩
        · simp at h; exact ⟨k, by simp, p, hp, h.symm⟩
      · rintro ⟨j, hj, q, hq, e⟩
        rcases List.mem_append.1 hj with h | h
        · exact .inl ⟨j, h, q, hq, e⟩
        · simp at h; subst h; rw [hp] at hq; cases hq; exact .inr (by simp [e])
    · intro x hx
      by_cases e : x = p.1
      · subst e; rw [upd_same]; exact htab
      · rw [upd_ne _ _ e]
        rw [hnm2] at hx
        exact hrl1 x (by simpa [e] using hx)
    · intro x hx
      rw [hnm2] at hx
      simp only [List.mem_append, List.mem_singleton, not_or] at hx
      rw [upd_ne _ _ hx.2]
      exact hrl2 x hx.1
theorem code_Run (c : GCode) (s : GStr) (G : List Bool) (fuel : Int) (hc : c.Ok) (hs : s.Ok) (hG : G.length ≤ 4611686018427387904) (hk : (checkedP c).bad = false → ChkOk c) :
    Tri Tryz.prog 12 [c.av, s.av, bools G, .int .i64 fuel] [] (RunPost c s G fuel) := by
  have hv := shape_Valid s hs
  refine Tri.enterD 179 Tryz.func12 rfl rfl rfl rfl fun Fr w0 => ?_
  repeat' (first | (refine AW.r 0 ?_; refine AL.d (AOp.box_ro rfl rfl) ?_; refine AL.d (AOp.box_ro rfl rfl) ?_; (first | refine AL.alloc_z (t := 4) (.bool false) (by kernel_rfl) rfl rfl fun r => ?_ | refine AL.alloc_z (t := 3) (.int .i64 0) (by kernel_rfl) rfl rfl fun r => ?_ | refine AL.alloc_z (t := 39) (.int .i64 0) (by kernel_rfl) rfl rfl fun r => ?_) <;> (first | refine AL.alloc_z (t := 4) (.bool false) (by kernel_rfl) rfl rfl fun r => ?_ | refine AL.alloc_z (t := 3) (.int .i64 0) (by kernel_rfl) rfl rfl fun r => ?_ | refine AL.alloc_z (t := 39) (.int .i64 0) (by kernel_rfl) rfl rfl fun r => ?_) <;> (first | refine AL.alloc_z (t := 4) (.bool false) (by kernel_rfl) rfl rfl fun r => ?_ | refine AL.alloc_z (t := 3) (.int .i64 0) (by kernel_rfl) rfl rfl fun r => ?_ | refine AL.alloc_z (t := 39) (.int .i64 0) (by kernel_rfl) rfl rfl fun r => ?_) <;> (first | refine AL.alloc_z (t := 4) (.bool false) (by kernel_rfl) rfl rfl fun r => ?_ | refine AL.alloc_z (t := 3) (.int .i64 0) (by kernel_rfl) rfl rfl fun r => ?_ | refine AL.alloc_z (t := 39) (.int .i64 0) (by kernel_rfl) rfl rfl fun r => ?_) <;> refine AL.nil ?_) | refine AW.jt ?_ | refine AW.jf ?_ | refine AW.jj (fun hb => ?_) (fun hb => ?_) | refine AW.go ?_ | fail)
  rename_i r1 r2 r3
  refine AW.perm (b := resAH r1 r2 r3 r false 0 0 0) (List.reverse_perm (resAH r1 r2 r3 r false 0 0 0)) ?_
  have hchk := (code_checked c hc).behind (resAH r1 r2 r3 r false 0 0 0)
  repeat' (first | (refine xS 1 1 ?_; (refine AL.callQ rfl rfl hchk rfl ?_ ?_; rotate_left; rintro _ _ ⟨_, ⟨_, _, _, e, _⟩, _⟩; cases e; rintro _ _ ⟨_, ⟨b, ba, bs, e, rfl⟩, rfl⟩; injection e with e; subst e) <;> refine AL.es 1 ?_ <;> refine AL.nil ?_) | refine AW.jt ?_ | refine AW.jf ?_ | refine AW.jj (fun hb => ?_) (fun hb => ?_) | refine AW.go ?_ | fail)
  generalize hgA : (arrsP c.Arrays (chk0 c) ⟨[], 0⟩).2 = gA
  refine AW.prune [2, 3, 4, 5, 8, 9, 10, 11, 12] ?_
  repeat' (first | (refine xS 2 2 ?_; (first | refine AL.d AOp.fa ?_ | refine AL.d (AOp.fr 7) ?_) <;> (first | refine AL.d AOp.la ?_ | refine AL.d (AOp.ll 0) ?_ | refine AL.d (AOp.ll 1) ?_ | refine AL.d (AOp.ll 2) ?_ | refine AL.d (AOp.ll 3) ?_ | refine AL.d (AOp.ll 4) ?_ | refine AL.d (AOp.ll 5) ?_ | refine AL.d (AOp.ll 6) ?_) <;> refine AL.es 1 ?_ <;> (first | (refine AL.gd ?_; (first | refine AL.d AOp.la ?_ | refine AL.d (AOp.lw 0) ?_ | refine AL.d (AOp.lw 1) ?_ | refine AL.d (AOp.lw 2) ?_ | refine AL.d (AOp.lw 3) ?_ | refine AL.d (AOp.lw 4) ?_ | refine AL.d (AOp.lw 5) ?_ | refine AL.d (AOp.lw 6) ?_)) | refine AL.gs ?_ | refine AL.gu ?_ | (refine AL.gx (fun hb => ?_) (fun hb => ?_) <;> first | (refine AL.gd ?_; (first | refine AL.d AOp.la ?_ | refine AL.d (AOp.lw 0) ?_ | refine AL.d (AOp.lw 1) ?_ | refine AL.d (AOp.lw 2) ?_ | refine AL.d (AOp.lw 3) ?_ | refine AL.d (AOp.lw 4) ?_ | refine AL.d (AOp.lw 5) ?_ | refine AL.d (AOp.lw 6) ?_)) | refine AL.gs ?_)) <;> (first | (refine AL.gd ?_; refine AL.d (AOp.call rfl rfl (hv.pure _)) ?_) | refine AL.gs ?_ | refine AL.gu ?_) <;> refine AL.es 2 ?_ <;> refine AL.nil ?_) | (refine AW.r 3 ?_; (first | refine AL.sl 0 ?_ | refine AL.sl 1 ?_ | refine AL.sl 2 ?_ | refine AL.sl 3 ?_ | refine AL.sl 4 ?_ | refine AL.sl 5 ?_ | refine AL.sl 6 ?_) <;> (first | refine AL.sl 0 ?_ | refine AL.sl 1 ?_ | refine AL.sl 2 ?_ | refine AL.sl 3 ?_ | refine AL.sl 4 ?_ | refine AL.sl 5 ?_ | refine AL.sl 6 ?_) <;> (first | refine AL.sl 0 ?_ | refine AL.sl 1 ?_ | refine AL.sl 2 ?_ | refine AL.sl 3 ?_ | refine AL.sl 4 ?_ | refine AL.sl 5 ?_ | refine AL.sl 6 ?_) <;> (first | refine AL.sl 0 ?_ | refine AL.sl 1 ?_ | refine AL.sl 2 ?_ | refine AL.sl 3 ?_ | refine AL.sl 4 ?_ | refine AL.sl 5 ?_ | refine AL.sl 6 ?_) <;> refine AL.nil ?_) | refine AW.jt ?_ | refine AW.jf ?_ | refine AW.jj (fun hb => ?_) (fun hb => ?_) | refine AW.go ?_ | fail)
  · exact AW.retD0 (.cell 3 rfl rfl (by kernel_rfl) (.cell 4 rfl rfl (by kernel_rfl) (.cell 5 rfl rfl (by kernel_rfl) (.cell 6 rfl rfl (by kernel_rfl) .nil)))) ⟨_, _, _, _, .form (.inl hb), rfl⟩
  · exact AW.retD0 (.cell 3 rfl rfl (by kernel_rfl) (.cell 4 rfl rfl (by kernel_rfl) (.cell 5 rfl rfl (by kernel_rfl) (.cell 6 rfl rfl (by kernel_rfl) .nil)))) ⟨_, _, _, _, .form (.inr (by simpa using hb)), rfl⟩
  rename_i hbad
  have hval : validStr s = true := by simpa using hb
  clear hb hchk hv
  have hko := hk hbad
  refine AW.prune [2, 3, 4, 5, 8, 9, 10, 11, 12] ?_
  repeat' (first | (refine xS 4 2 ?_; (first | refine AL.d AOp.fa ?_ | refine AL.d (AOp.fr 5) ?_) <;> (first | refine AL.d AOp.la ?_ | refine AL.d (AOp.ll 0) ?_ | refine AL.d (AOp.ll 1) ?_ | refine AL.d (AOp.ll 2) ?_ | refine AL.d (AOp.ll 3) ?_ | refine AL.d (AOp.ll 4) ?_ | refine AL.d (AOp.ll 5) ?_ | refine AL.d (AOp.ll 6) ?_) <;> refine AL.range 2 3 .string rfl rfl (by kernel_rfl) rfl fun it => ?_ <;> refine AL.nil ?_) | refine AW.jt ?_ | refine AW.jf ?_ | refine AW.jj (fun hb => ?_) (fun hb => ?_) | refine AW.go ?_ | fail)
  refine AW.prune [2, 3, 4, 5, 8, 9, 10, 11, 12, 43] (AW.loop (fun m af h => ∃ idx : List Nat, idx.Nodup ∧ (∀ k ∈ idx, k < (checkedP c).S.length) ∧ m = (checkedP c).S.length - idx.length ∧ af = [(2, bools G), (3, .int .i64 fuel), (4, .at c.av), (5, .at s.av), (8, .ref r1 0), (9, .ref r2 0), (10, .ref r3 0), (11, .ref r 0), (12, .ref b 0), (43, .ref it 0)] ∧ h = .iter it bs (checkedP c).gS.clk (seenOf (checkedP c).gS idx) :: ((checkedP c).ah b ba bs gA ++ resAH r1 r2 r3 r false 0 0 0) ∧ ∀ k ∈ idx, ∀ p, (checkedP c).S[k]? = some p → 0 ≤ findI s p.1 p.2) (checkedP c).S.length ⟨[], List.nodup_nil, by simp, by simp, rfl, rfl, by simp⟩ ?_)
  rintro m af h ⟨idx, hnd, hbd, rfl, rfl, rfl, hfind⟩
  refine AW.seq ?_
  have hbd' : ∀ k ∈ idx, k < (kvW iav (checkedP c).S).length := by rw [kvW_length]; exact hbd
  have hrl : s.Rels.length ≤ 4611686018427387904 := by obtain ⟨_, h2, _⟩ := hs; omega
  repeat' (first | (refine AW.r 5 ?_; refine AL.next 3 0 idx rfl rfl rfl hbd' rfl (fun hall => ?_) (fun k key v hk1 hk2 => ?_) <;> refine AL.es 1 ?_ <;> refine AL.nil ?_) | refine AW.jt ?_ | refine AW.jf ?_ | refine AW.jj (fun hb => ?_) (fun hb => ?_) | refine AW.go ?_ | fail)
  rotate_left
  · obtain ⟨p, hp, rfl, rfl⟩ := kvW_get hk2
    have hpl : k < (checkedP c).S.length := (List.getElem?_eq_some_iff.1 hp).1
    have hfi := shape_Find s hrl p.1 p.2
    have hlen := nodup_bound (checkedP c).S.length (idx ++ [k]) (nodup_snoc hnd hk1) (by intro j hj; rcases List.mem_append.1 hj with h | h; exact hbd j h; simp at h; omega)
    simp only [lA, List.length_singleton] at hlen
    repeat' (first | (refine AW.r 6 ?_; refine AL.d (AOp.entry (i := 3) (j := 0) (k := k) rfl rfl rfl hk2) ?_; refine xN 4 ?_) | (refine AW.r 7 ?_; (first | refine AL.d AOp.la ?_ | refine AL.d (AOp.lw 0) ?_ | refine AL.d (AOp.lw 1) ?_ | refine AL.d (AOp.lw 2) ?_ | refine AL.d (AOp.lw 3) ?_ | refine AL.d (AOp.lw 4) ?_ | refine AL.d (AOp.lw 5) ?_ | refine AL.d (AOp.lw 6) ?_ | refine AL.d (AOp.lw 7) ?_) <;> refine AL.es 2 ?_ <;> refine AL.d (AOp.call rfl rfl (hfi.pure _)) ?_ <;> refine AL.es 1 ?_ <;> refine AL.nil ?_) | refine AW.jt ?_ | refine AW.jf ?_ | refine AW.jj (fun hb => ?_) (fun hb => ?_) | refine AW.go ?_ | fail)
    · repeat' (first | (refine AW.r 8 ?_; (first | refine AL.sl 0 ?_ | refine AL.sl 1 ?_ | refine AL.sl 2 ?_ | refine AL.sl 3 ?_ | refine AL.sl 4 ?_ | refine AL.sl 5 ?_ | refine AL.sl 6 ?_ | refine AL.sl 7 ?_) <;> (first | refine AL.sl 0 ?_ | refine AL.sl 1 ?_ | refine AL.sl 2 ?_ | refine AL.sl 3 ?_ | refine AL.sl 4 ?_ | refine AL.sl 5 ?_ | refine AL.sl 6 ?_ | refine AL.sl 7 ?_) <;> (first | refine AL.sl 0 ?_ | refine AL.sl 1 ?_ | refine AL.sl 2 ?_ | refine AL.sl 3 ?_ | refine AL.sl 4 ?_ | refine AL.sl 5 ?_ | refine AL.sl 6 ?_ | refine AL.sl 7 ?_) <;> (first | refine AL.sl 0 ?_ | refine AL.sl 1 ?_ | refine AL.sl 2 ?_ | refine AL.sl 3 ?_ | refine AL.sl 4 ?_ | refine AL.sl 5 ?_ | refine AL.sl 6 ?_ | refine AL.sl 7 ?_) <;> refine AL.nil ?_) | refine AW.jt ?_ | refine AW.jf ?_ | refine AW.jj (fun hb => ?_) (fun hb => ?_) | refine AW.go ?_ | fail)
      exact AW.retD0 (.cell 4 rfl rfl (by kernel_rfl) (.cell 5 rfl rfl (by kernel_rfl) (.cell 6 rfl rfl (by kernel_rfl) (.cell 7 rfl rfl (by kernel_rfl) .nil)))) ⟨_, _, _, _, .name hbad hval p (lG hp) (by simpa using hb), rfl⟩
    · refine AW.again_keep ((checkedP c).S.length - (idx ++ [k]).length) [2, 3, 4, 5, 8, 9, 10, 11, 12, 43] (by simp only [lA, List.length_singleton]; omega) ⟨idx ++ [k], nodup_snoc hnd hk1, ?_, rfl, rfl, rfl, ?_⟩
      · intro j hj; rcases List.mem_append.1 hj with h | h; exact hbd j h; simp at h; omega
      · intro j hj q hq
        rcases List.mem_append.1 hj with h | h
        · exact hfind j h q hq
        · simp at h; subst h; rw [hp] at hq; cases hq; simpa using hb
  have hfound : ∀ p ∈ (checkedP c).S, 0 ≤ findI s p.1 p.2 := by
    intro p hp
    obtain ⟨k, hk⟩ := List.getElem?_of_mem hp
    exact hfind k (hall k (by rw [kvW_length]; exact (List.getElem?_eq_some_iff.1 hk).1)) p hk
  clear hfind hall hbd hbd' hnd
  refine AW.drop (List.sublist_cons_self _ _) ?_
  refine AW.prune [2, 3, 4, 5, 8, 9, 10, 11, 12] ?_
  have hfu : ∀ (P : Prop), (fuel < 0 ∨ fuel > 10000000 → P) → (0 ≤ fuel ∧ fuel ≤ 10000000 → P) → P := fun P h1 h2 => by
    by_cases h : 0 ≤ fuel ∧ fuel ≤ 10000000
    · exact h2 h
    · exact h1 (by omega)
  refine hfu _ (fun hf => ?_) (fun hf => ?_)
  · repeat' (first | (refine xS 9 3 ?_; (first | refine AL.es 3 ?_ | (refine AL.gx (fun hb => ?_) (fun hb => ?_) <;> refine AL.es 3 ?_)) <;> refine AL.nil ?_) | (refine AW.r 10 ?_; (first | refine AL.sl 0 ?_ | refine AL.sl 1 ?_ | refine AL.sl 2 ?_ | refine AL.sl 3 ?_ | refine AL.sl 4 ?_ | refine AL.sl 5 ?_ | refine AL.sl 6 ?_) <;> (first | refine AL.sl 0 ?_ | refine AL.sl 1 ?_ | refine AL.sl 2 ?_ | refine AL.sl 3 ?_ | refine AL.sl 4 ?_ | refine AL.sl 5 ?_ | refine AL.sl 6 ?_) <;> (first | refine AL.sl 0 ?_ | refine AL.sl 1 ?_ | refine AL.sl 2 ?_ | refine AL.sl 3 ?_ | refine AL.sl 4 ?_ | refine AL.sl 5 ?_ | refine AL.sl 6 ?_) <;> (first | refine AL.sl 0 ?_ | refine AL.sl 1 ?_ | refine AL.sl 2 ?_ | refine AL.sl 3 ?_ | refine AL.sl 4 ?_ | refine AL.sl 5 ?_ | refine AL.sl 6 ?_) <;> refine AL.nil ?_) | refine AW.jt ?_ | refine AW.jf ?_ | refine AW.jj (fun hb => ?_) (fun hb => ?_) | refine AW.go ?_ | fail)
    all_goals first
      | (exfalso; simp only [dT, dF] at *; omega)
      | exact AW.retD0 (.cell 3 rfl rfl (by kernel_rfl) (.cell 4 rfl rfl (by kernel_rfl) (.cell 5 rfl rfl (by kernel_rfl) (.cell 6 rfl rfl (by kernel_rfl) .nil)))) ⟨_, _, _, _, .arg hbad hval hfound hf, rfl⟩
  repeat' (first | (refine xS 9 3 ?_; (first | refine AL.es 3 ?_ | (refine AL.gx (fun hb => ?_) (fun hb => ?_) <;> refine AL.es 3 ?_)) <;> refine AL.nil ?_) | refine AW.jt ?_ | refine AW.jf ?_ | refine AW.jj (fun hb => ?_) (fun hb => ?_) | refine AW.go ?_ | fail)
  all_goals try (exfalso; simp only [dT, dF] at *; omega)
  refine AW.prune [2, 3, 4, 5, 8, 9, 10, 11, 12] ?_
  obtain ⟨hfl, hrg, hkeys, harrs, hapart, hlook, honly, har, hsar, hbody⟩ := hko
  have hFx : (some (AV.int .i64 c.Flags)) = some (AV.int .i64 (c.Flags.toNat : Nat)) := by rw [Int.toNat_of_nonneg (by omega)]
  have hRx : (some (AV.int .i64 c.Regs)) = some (AV.int .i64 (c.Regs.toNat : Nat)) := by rw [Int.toNat_of_nonneg hrg.1]
  have hFb : c.Flags.toNat ≤ 1000 := by omega
  have hRb : c.Regs.toNat ≤ 60 := by omega
  refine AW.cut (fun af ah => ∃ B : Blk, B.names = [] ∧ af = [(2, bools G), (3, .int .i64 fuel), (4, .at c.av), (5, .at s.av), (8, .ref r1 0), (9, .ref r2 0), (10, .ref r3 0), (11, .ref r 0), (12, .ref b 0), (15, .ref B.mb 0)] ∧ ah = (checkedP c).ah b ba bs gA ++ resAH r1 r2 r3 r false 0 0 0 ++ (⟨List.replicate c.Flags.toNat false, List.replicate c.Regs.toNat 0, fun _ => [], 0, 0⟩ : MS).ah ⟨s.Size, G, fuel⟩ B) ?_ ?_
  · refine AW.explore [] [4, 7, 8, 11, 12, 13, 14] rfl (by kernel_rfl) (by kernel_rfl) (by kernel_rfl) (by kernel_rfl) ?_
    repeat' (first
      | refine AQE.hole rfl rfl ?_
      | refine AQE.ev rfl rfl rfl rfl ?_
      | refine AQE.op rfl (AOp.field_at rfl rfl (by kernel_rfl) rfl) rfl rfl ?_
      | refine AQE.op rfl (AOp.load_at rfl rfl (by kernel_rfl)) rfl rfl ?_
      | refine AQE.nil ?_)
    repeat' (first
      | refine AX.four (n := 6) 4 7 8 11 rfl ?_ ?_ ?_ ?_
      | refine AX.three (n := 5) 4 7 8 rfl ?_ ?_ ?_
      | refine AX.three (n := 5) 4 7 11 rfl ?_ ?_ ?_
      | refine AX.three (n := 5) 4 8 11 rfl ?_ ?_ ?_
      | refine AX.three (n := 5) 7 8 11 rfl ?_ ?_ ?_
      | refine AX.two (n := 4) 4 7 rfl ?_ ?_
      | refine AX.two (n := 4) 4 8 rfl ?_ ?_
      | refine AX.two (n := 4) 4 11 rfl ?_ ?_
      | refine AX.two (n := 4) 7 8 rfl ?_ ?_
      | refine AX.two (n := 4) 7 11 rfl ?_ ?_
      | refine AX.two (n := 4) 8 11 rfl ?_ ?_
      | refine AX.one (n := 3) 4 rfl ?_
      | refine AX.one (n := 3) 7 rfl ?_
      | refine AX.one (n := 3) 8 rfl ?_
      | refine AX.one (n := 3) 11 rfl ?_
      | refine AX.one (n := 2) 12 rfl ?_
      | refine AX.one (n := 1) 13 rfl ?_
      | refine AX.one (n := 0) 14 rfl ?_
      | (refine AXS.new (i := 4) rfl rfl rfl (AOp.makeSlice (n := c.Flags.toNat) (e := 4) (c := .bool false) (z := .bool false) (bytes := 1) hFx hFx (by kernel_rfl) rfl (by omega) (by omega)) (fun bf => ?_); dsimp only [sA, sB])
      | (refine AXS.new (i := 7) rfl rfl rfl (AOp.makeSlice (n := c.Regs.toNat) (e := 3) (c := .int .i64 0) (z := .int .i64 0) (bytes := 8) hRx hRx (by kernel_rfl) rfl (by omega) (by omega)) (fun br => ?_); dsimp only [sA, sB])
      | (refine AXS.new (i := 8) rfl rfl rfl AOp.makeMap (fun bl => ?_); dsimp only [sA, sB])
      | (refine AXS.step (i := 11) rfl rfl rfl (AOp.call rfl rfl (code_actions.behind _)) ?_ (by rintro _ _ ⟨_, ⟨_, _, e, _⟩, _⟩; cases e); rintro _ _ ⟨_, ⟨bu, gu, e, rfl⟩, rfl⟩; injection e with e; subst e; dsimp only [sA, sB])
      | (refine AXS.det (i := 12) rfl rfl rfl (AOp.build (pl := [(0, 1), (1, 1), (2, 1), (3, 1), (4, 1), (5, 1), (6, 1), (7, 1), (8, 1)]) (z := .st [.int .i64 0, .sl [], .sl [], .val (.map none), .sl [], .int .i64 0, .int .i64 0, .int .i64 0, .val (.map none)]) (by kernel_rfl) rfl rfl rfl) ?_; dsimp only [sA, sB])
      | (refine AXS.new (i := 13) rfl rfl rfl (AOp.box rfl rfl) (fun bm => ?_); dsimp only [sA, sB])
      | (refine AXS.det (i := 14) rfl rfl rfl (AOp.ev rfl) ?_; dsimp only [sA, sB]))
    all_goals
      refine AX.done [(2, bools G), (3, .int .i64 fuel), (4, .at c.av), (5, .at s.av), (8, .ref r1 0), (9, .ref r2 0), (10, .ref r3 0), (11, .ref r 0), (12, .ref b 0), (15, .ref bm 0)] rfl ?_
      refine AW.perm (b := (checkedP c).ah b ba bs gA ++ resAH r1 r2 r3 r false 0 0 0 ++ (⟨List.replicate c.Flags.toNat false, List.replicate c.Regs.toNat 0, fun _ => [], 0, 0⟩ : MS).ah ⟨s.Size, G, fuel⟩ ⟨bm, bf, br, bl, bu, [], fun _ => 0, ⟨[], 0⟩, gu⟩) ?_ (AW.meet [2, 3, 4, 5, 8, 9, 10, 11, 12, 15] ⟨_, rfl, rfl, rfl⟩)
      refine List.perm_append_comm.trans (List.Perm.append_left _ ?_)
      simp only [MS.ah, MS.box, List.map_replicate, List.length_replicate, List.map_nil]
      repeat' (first
        | exact List.Perm.nil
        | refine List.Perm.cons _ ?_
        | refine (List.perm_middle (l₁ := [_])).trans (List.Perm.cons _ ?_)
        | refine (List.perm_middle (l₁ := [_, _])).trans (List.Perm.cons _ ?_)
        | refine (List.perm_middle (l₁ := [_, _, _])).trans (List.Perm.cons _ ?_)
        | refine (List.perm_middle (l₁ := [_, _, _, _])).trans (List.Perm.cons _ ?_))
  · rintro af ah ⟨B, hB, rfl, rfl⟩
    refine AW.seq (AW.seq ?_)
    exact run_t6 c s G fuel hc hs hG hbad hval hfound hf (hk hbad) b ba bs r1 r2 r3 r gA B hB Fr w0
theorem SFit.nok {F R : Nat} {sig : ByteArray → Option Nat} {s : GStmt} (h : SFit F R sig s) : NOk s := by
  induction h with
  | mk h hb he ihb ihe => exact .mk h.n ihb ihe
theorem code_RunC (c : GCode) (s : GStr) (G : List Bool) (fuel : Int) (hc : c.Ok) (hs : s.Ok) (hG : G.length ≤ 4611686018427387904) : Tri Tryz.prog 12 [c.av, s.av, bools G, .int .i64 fuel] [] (RunPost c s G fuel) :=
  code_Run c s G fuel hc hs hG fun h => chk_ok h
def untilB (l : List GStmt) : Bool := hasL (fun s => decide (s.Kind = 10)) l
def timeR (c : GCode) : List Int × Int :=
  if (checkedP c).bad = true then ([], 1) else if untilB c.Body = true then ([], 6) else if (timeL c.Body []).length > 61 ∨ ∃ x ∈ timeL c.Body [], x > 1099511627776 then ([], 5) else (timeL c.Body [], 0)
theorem Time1 (s : GStmt) : Tri Tryz.prog 34 [s.st] [] (D (.bool (decide (s.Kind = 10))) []) := by
  refine Tri.enter 6 Tryz.func34 rfl rfl rfl rfl fun Fr w0 => ?_
  repeat' (first | (refine AW.r 0 ?_; refine AL.d (AOp.box_ro rfl rfl) ?_; refine xN 1 ?_) | refine AW.re 1 4 ?_ | refine AW.jt ?_ | refine AW.jf ?_ | refine AW.jj (fun hb => ?_) (fun hb => ?_) | refine AW.go ?_ | fail)
  exact AW.retv rfl ⟨by rw [ieq], rfl⟩
theorem Time2 (x : Int) : Tri Tryz.prog 37 [iav x] [] (D (.bool (decide (x > 1099511627776))) []) := by
  refine Tri.enter 5 Tryz.func37 rfl rfl rfl rfl fun Fr w0 => ?_
  repeat' (first | refine AW.re 0 1 ?_ | refine AW.re 1 3 ?_ | refine AW.jt ?_ | refine AW.jf ?_ | refine AW.jj (fun hb => ?_) (fun hb => ?_) | refine AW.go ?_ | fail)
  exact AW.retv rfl ⟨rfl, rfl⟩
theorem code_Time (c : GCode) (hc : c.Ok) (hcnt : cntL c.Body ≤ 50000) : Tri Tryz.prog 14 [c.av] [] (D (.tup [ints (timeR c).1, .int .i64 (timeR c).2]) []) := by
  have hV := code_Valid c hc
  obtain ⟨_, _, _, hcb1, hcb2⟩ := hc
  have hK := contains_n (cntL c.Body) c.Body 34 [] (fun s => decide (s.Kind = 10)) (Nat.le_refl _) (by omega) fun s => Time1 s
  by_cases hb : (checkedP c).bad = true
  · rw [timeR, if_pos hb]
    rw [hb] at hV
    refine Tri.enter 22 Tryz.func14 rfl rfl rfl rfl fun Fr w0 => ?_
    repeat' (first | (refine AW.r 0 ?_; refine AL.d (AOp.box_ro rfl rfl) ?_; refine xN 2 ?_) | (refine xS 1 1 ?_; refine AL.d (AOp.call rfl rfl hV) ?_; refine xN 1 ?_) | refine AW.re 2 2 ?_ | refine AW.jt ?_ | refine AW.jf ?_ | refine AW.jj (fun hb => ?_) (fun hb => ?_) | refine AW.go ?_ | fail)
    all_goals first
      | exact AW.retv rfl ⟨rfl, rfl⟩
      | (exfalso; simp at *; done)
  · have hb' : (checkedP c).bad = false := by simpa using hb
    have hno : ∀ x ∈ c.Body, NOk x := fun x hx => ((chk_ok hb').body x hx).nok
    have hT := code_time (cntL c.Body) c.Body (Nat.le_refl _) hcnt (by omega) hcb2 hno
    have hf := timeL_facts (cntL c.Body) c.Body (Nat.le_refl _) hno [] nil_ok
    simp only [List.length_nil] at hf
    have hC := ContainsFunc_poly (timeL c.Body []) (by omega) 37 [] (fun x => decide (x > 1099511627776)) fun x _ => Time2 x
    rw [timeR, if_neg hb]
    rw [hb'] at hV
    have hlen : (((timeL c.Body []).map iav).length : Int) = (timeL c.Body []).length := by simp
    unfold untilB
    by_cases hu : hasL (fun s => decide (s.Kind = 10)) c.Body = true
    · rw [if_pos hu]
      rw [hu] at hK
      refine Tri.enter 22 Tryz.func14 rfl rfl rfl rfl fun Fr w0 => ?_
      repeat' (first | (refine AW.r 0 ?_; refine AL.d (AOp.box_ro rfl rfl) ?_; refine xN 2 ?_) | (refine xS 1 1 ?_; (first | refine AL.d (AOp.call rfl rfl hV) ?_ | refine AL.d (AOp.call rfl rfl hK) ?_) <;> refine AL.es 1 ?_ <;> refine AL.nil ?_) | (refine xS 3 2 ?_; (first | refine AL.d (AOp.call rfl rfl hV) ?_ | refine AL.d (AOp.call rfl rfl hK) ?_) <;> refine AL.nil ?_) | refine AW.re 4 2 ?_ | refine AW.jt ?_ | refine AW.jf ?_ | refine AW.jj (fun hb => ?_) (fun hb => ?_) | refine AW.go ?_ | fail)
      all_goals first
        | exact AW.retv rfl ⟨rfl, rfl⟩
        | (exfalso; simp at *; done)
    · rw [if_neg hu]
      rw [show hasL (fun s => decide (s.Kind = 10)) c.Body = false by simpa using hu] at hK
      refine Tri.enter 22 Tryz.func14 rfl rfl rfl rfl fun Fr w0 => ?_
      repeat' (first | (refine AW.r 0 ?_; refine AL.d (AOp.box_ro rfl rfl) ?_; refine xN 2 ?_) | (refine xS 1 1 ?_; (first | refine AL.d (AOp.call rfl rfl hV) ?_ | refine AL.d (AOp.call rfl rfl hK) ?_ | refine AL.d (AOp.call rfl rfl hT) ?_ | refine AL.d (AOp.call rfl rfl hC) ?_) <;> refine AL.es 1 ?_ <;> refine AL.nil ?_) | (refine xS 3 2 ?_; (first | refine AL.d (AOp.call rfl rfl hV) ?_ | refine AL.d (AOp.call rfl rfl hK) ?_ | refine AL.d (AOp.call rfl rfl hT) ?_ | refine AL.d (AOp.call rfl rfl hC) ?_) <;> refine AL.nil ?_) | (refine xS 5 2 ?_; (first | refine AL.d (AOp.call rfl rfl hV) ?_ | refine AL.d (AOp.call rfl rfl hK) ?_ | refine AL.d (AOp.call rfl rfl hT) ?_ | refine AL.d (AOp.call rfl rfl hC) ?_) <;> refine AL.es 1 ?_ <;> refine AL.nil ?_) | (refine xS 6 4 ?_; (first | refine AL.es 1 ?_ | (refine AL.gx (fun hb => ?_) (fun hb => ?_) <;> refine AL.es 1 ?_)) <;> (first | (refine AL.gd ?_; (first | refine AL.d (AOp.call rfl rfl hV) ?_ | refine AL.d (AOp.call rfl rfl hK) ?_ | refine AL.d (AOp.call rfl rfl hT) ?_ | refine AL.d (AOp.call rfl rfl hC) ?_)) | refine AL.gs ?_ | refine AL.gu ?_) <;> refine AL.es 1 ?_ <;> refine AL.nil ?_) | refine AW.re 7 2 ?_ | refine AW.re 8 3 ?_ | refine AW.jt ?_ | refine AW.jf ?_ | refine AW.jj (fun hb => ?_) (fun hb => ?_) | refine AW.go ?_ | fail)
      all_goals first
        | (exfalso; simp at *; done)
        | skip
      all_goals first
        | (refine AW.retv rfl ⟨?_, rfl⟩; rw [if_pos (Or.inl (by simp only [dT] at hb; omega))]; rfl)
        | (refine AW.retv rfl ⟨?_, rfl⟩; rw [if_pos (Or.inr (by simpa using hb))]; rfl)
        | (rename_i hb2; refine AW.retv rfl ⟨?_, rfl⟩; rw [if_neg (by (rintro (h | ⟨x, hx, h⟩); (simp only [dF] at hb2; omega); (simp at hb; have := hb x hx; omega)))]; rfl)
theorem ref_all {c : GCode} (hb : (checkedP c).bad = false) : allL (refS (arOf c.Arrays) c.Flags c.Regs) c.Body = true := by
  rw [checked_iff] at hb
  have h : refValid c = true := by simpa using hb
  unfold refValid at h
  simp only [bA] at h
  exact h.1.2.2
theorem Ex.det {E : Env} {T : Task} {m : MS} {o1 : Option Int} {m1 : MS} (h : Ex E T m o1 m1) : ∀ {o2 : Option Int} {m2 : MS}, Ex E T m o2 m2 → o1 = o2 ∧ m1 = m2 := by
  induction h with
  | nil => intro o2 m2 h2; cases h2; exact ⟨rfl, rfl⟩
  | stop h => intro o2 m2 h2; cases h2 <;> first | exact ⟨rfl, rfl⟩ | contradiction
  | bad h h1 ih =>
    intro o2 m2 h2
    cases h2 with
    | stop h' => contradiction
    | bad h' h1' => exact ih h1'
    | cons h' h1' h2' => exact absurd (ih h1').1 (by simp)
  | cons h h1 h2 ih1 ih2 =>
    intro o2 m2 h3
    cases h3 with
    | stop h' => contradiction
    | bad h' h1' => exact absurd (ih1 h1').1 (by simp)
    | cons h' h1' h2' => obtain ⟨_, rfl⟩ := ih1 h1'; exact ih2 h2'
  | prim h => intro o2 m2 h2; cases h2 <;> first | exact ⟨rfl, rfl⟩ | (exfalso; (try unfold isPrim at *); omega)
  | gbad h h1 => intro o2 m2 h2; cases h2 <;> first | exact ⟨rfl, rfl⟩ | contradiction | (exfalso; (try unfold isPrim at *); omega)
  | gok h h1 => intro o2 m2 h2; cases h2 <;> first | exact ⟨rfl, rfl⟩ | contradiction | (exfalso; (try unfold isPrim at *); omega)
  | each h h1 ih => intro o2 m2 h2; cases h2 <;> first | (exact ih (by assumption)) | (exfalso; (try unfold isPrim at *); omega)
  | eend h => intro o2 m2 h2; cases h2 <;> first | exact ⟨rfl, rfl⟩ | contradiction
  | ebad h h1 ih =>
    intro o2 m2 h2
    cases h2 with
    | eend h' => contradiction
    | ebad h' h1' => exact ih h1'
    | estep h' h1' h2' => exact absurd (ih h1').1 (by simp)
  | estep h h1 h2 ih1 ih2 =>
    intro o2 m2 h3
    cases h3 with
    | eend h' => contradiction
    | ebad h' h1' => exact absurd (ih1 h1').1 (by simp)
    | estep h' h1' h2' => obtain ⟨_, rfl⟩ := ih1 h1'; exact ih2 h2'
  | cond h h1 ih => intro o2 m2 h2; cases h2 <;> first | (exact ih (by assumption)) | (exfalso; (try unfold isPrim at *); omega)
  | t0 h h1 => intro o2 m2 h2; cases h2 <;> first | exact ⟨rfl, rfl⟩ | contradiction | (exfalso; (try unfold isPrim at *); omega)
  | t1 h h1 h2 ih => intro o2 m2 h3; cases h3 <;> first | (exact ih (by assumption)) | contradiction | (exfalso; (try unfold isPrim at *); omega)
  | tz h1 ih => intro o2 m2 h2; cases h2; exact ih (by assumption)
  | ts h1 ih => intro o2 m2 h2; cases h2; exact ih (by assumption)
  | rz => intro o2 m2 h2; cases h2; exact ⟨rfl, rfl⟩
  | rbad h1 ih =>
    intro o2 m2 h2
    cases h2 with
    | rbad h1' => exact ih h1'
    | rstep h1' h2' => exact absurd (ih h1').1 (by simp)
  | rstep h1 h2 ih1 ih2 =>
    intro o2 m2 h3
    cases h3 with
    | rbad h1' => exact absurd (ih1 h1').1 (by simp)
    | rstep h1' h2' => obtain ⟨_, rfl⟩ := ih1 h1'; exact ih2 h2'
  | ubad h h1 ih =>
    intro o2 m2 h2
    cases h2 with
    | ubad h' h1' => exact ih h1'
    | uend h' h1' h2' => exact absurd (ih h1').1 (by simp)
    | ustop h' h1' h2' h3' => exact absurd (ih h1').1 (by simp)
    | ustep h' h1' h2' h3' h4' => exact absurd (ih h1').1 (by simp)
    | _ => exfalso; (try unfold isPrim at *); omega
  | uend h h1 h2 ih =>
    intro o2 m2 h3
    cases h3 with
    | ubad h' h1' => exact absurd (ih h1').1 (by simp)
    | uend h' h1' h2' => exact ⟨rfl, (ih h1').2⟩
    | ustop h' h1' h2' h3' => obtain ⟨_, rfl⟩ := ih h1'; rw [h2] at h2'; cases h2'
    | ustep h' h1' h2' h3' h4' => obtain ⟨_, rfl⟩ := ih h1'; rw [h2] at h2'; cases h2'
    | _ => exfalso; (try unfold isPrim at *); omega
  | ustop h h1 h2 h3 ih =>
    intro o2 m2 h4
    cases h4 with
    | ubad h' h1' => exact absurd (ih h1').1 (by simp)
    | uend h' h1' h2' => obtain ⟨_, rfl⟩ := ih h1'; rw [h2] at h2'; cases h2'
    | ustop h' h1' h2' h3' => exact ⟨rfl, (ih h1').2⟩
    | ustep h' h1' h2' h3' h4' => obtain ⟨_, rfl⟩ := ih h1'; contradiction
    | _ => exfalso; (try unfold isPrim at *); omega
  | ustep h h1 h2 h3 h4 ih1 ih2 =>
    intro o2 m2 h5
    cases h5 with
    | ubad h' h1' => exact absurd (ih1 h1').1 (by simp)
    | uend h' h1' h2' => obtain ⟨_, rfl⟩ := ih1 h1'; rw [h2] at h2'; cases h2'
    | ustop h' h1' h2' h3' => obtain ⟨_, rfl⟩ := ih1 h1'; contradiction
    | ustep h' h1' h2' h3' h4' => obtain ⟨_, rfl⟩ := ih1 h1'; exact ih2 h4'
    | _ => exfalso; (try unfold isPrim at *); omega
theorem prim_same (n : Int) (s : GStmt) (m : MS) : (prim n s m).steps = m.steps ∧ (prim n s m).used = m.used := by
  have hif : ∀ (c : Prop) [Decidable c] (a b : MS), (a.steps = m.steps ∧ a.used = m.used) → (b.steps = m.steps ∧ b.used = m.used) → ((if c then a else b).steps = m.steps ∧ (if c then a else b).used = m.used) := fun c _ a b h1 h2 => by split <;> assumption
  unfold prim
  exact hif _ _ _ ⟨rfl, rfl⟩ (hif _ _ _ ⟨rfl, rfl⟩ (hif _ _ _ ⟨rfl, rfl⟩ (hif _ _ _ ⟨rfl, rfl⟩ (hif _ _ _ ⟨rfl, rfl⟩ (hif _ _ _ ⟨rfl, rfl⟩ (hif _ _ _ ⟨rfl, rfl⟩ (hif _ _ _ ⟨rfl, rfl⟩ (hif _ _ _ ⟨rfl, rfl⟩ ⟨rfl, rfl⟩))))))))
theorem Ex.grow {E : Env} {T : Task} {m : MS} {o : Option Int} {m' : MS} (h : Ex E T m o m') : m.steps ≤ m'.steps ∧ m.used ≤ m'.used ∧ (m.steps ≤ E.fuel → m'.steps ≤ E.fuel) ∧ (m.used ≤ E.G.length → m'.used ≤ E.G.length) := by
  induction h with
  | prim h => rename_i x m; have := prim_same E.n x m; omega
  | gok h h1 => rename_i x m; simp only [MS.guess]; omega
  | bad h h1 ih => simp only [MS.step] at ih; omega
  | cons h h1 h2 ih1 ih2 => simp only [MS.step] at ih1; omega
  | ebad h h1 ih => simp only [MS.setR] at ih; omega
  | estep h h1 h2 ih1 ih2 => simp only [MS.setR] at ih1; omega
  | ustep h h1 h2 h3 h4 ih1 ih2 => simp only [MS.step] at ih2; omega
  | _ => omega
theorem Ex.other {E : Env} {T : Task} {m : MS} {o : Option Int} {m' : MS} (h : Ex E T m o m') : ∀ {E' : Env}, E'.n = E.n → o = none → m'.steps ≤ E'.fuel → m'.used ≤ E'.G.length → m'.used ≤ E.G.length → 0 ≤ m.used → E'.G.take m'.used.toNat = E.G.take m'.used.toNat → Ex E' T m none m' := by
  have tk : ∀ (G G' : List Bool) (a b : Nat), a ≤ b → G'.take b = G.take b → G'.take a = G.take a := fun G G' a b hab e => by
    rw [← Nat.min_eq_left hab, ← List.take_take, e, List.take_take]
  induction h with
  | nil => intro E' hn ho hf hg hg2 h0 he; exact .nil
  | stop h => intro E' hn ho; cases ho
  | bad h h1 ih => intro E' hn ho; cases ho
  | cons h h1 h2 ih1 ih2 =>
    intro E' hn ho hf hg hg2 h0 he
    have g1 := h1.grow
    have g2 := h2.grow
    simp only [MS.step] at g1
    refine .cons (by omega) (ih1 hn rfl (by omega) (by omega) (by omega) h0 (tk _ _ _ _ (by omega) he)) (ho ▸ ih2 hn ho hf hg hg2 (by omega) he)
  | prim h => intro E' hn ho hf hg hg2 h0 he; rw [← hn]; exact .prim h
  | gbad h h1 => intro E' hn ho; cases ho
  | gok h h1 =>
    intro E' hn ho hf hg hg2 h0 he
    rename_i x m
    simp only [MS.guess] at hg hg2 he
    have e : m.guess E.G x = m.guess E'.G x := by
      simp only [MS.guess]
      have h3 : (E.G.drop m.used.toNat).take (m.rels x.Name).length = (E'.G.drop m.used.toNat).take (m.rels x.Name).length := by
        have h4 : ∀ G : List Bool, (G.drop m.used.toNat).take (m.rels x.Name).length = (G.take (m.used + (m.rels x.Name).length).toNat).drop m.used.toNat := fun G => by
          rw [List.take_drop]; congr 2; omega
        rw [h4, h4, he]
      rw [h3]
    rw [e]
    exact .gok h (by omega)
  | each h h1 ih => intro E' hn ho hf hg hg2 h0 he; exact .each h (ih hn ho hf hg hg2 h0 he)
  | eend h => intro E' hn ho hf hg hg2 h0 he; exact .eend (by rw [hn]; exact h)
  | ebad h h1 ih => intro E' hn ho; cases ho
  | estep h h1 h2 ih1 ih2 =>
    intro E' hn ho hf hg hg2 h0 he
    have g1 := h1.grow
    have g2 := h2.grow
    simp only [MS.setR] at g1
    exact .estep (by rw [hn]; exact h) (ih1 hn rfl (by omega) (by omega) (by omega) h0 (tk _ _ _ _ (by omega) he)) (ih2 hn ho hf hg hg2 (by omega) he)
  | cond h h1 ih => intro E' hn ho hf hg hg2 h0 he; exact .cond h (ih hn ho hf hg hg2 h0 he)
  | t0 h h1 => intro E' hn ho hf hg hg2 h0 he; exact .t0 h h1
  | t1 h h1 h2 ih => intro E' hn ho hf hg hg2 h0 he; exact .t1 h h1 (ih hn ho hf hg hg2 h0 he)
  | tz h1 ih => intro E' hn ho hf hg hg2 h0 he; exact .tz (ih hn ho hf hg hg2 h0 he)
  | ts h1 ih => intro E' hn ho hf hg hg2 h0 he; exact .ts (by rw [hn]; exact ih hn ho hf hg hg2 h0 he)
  | rz => intro E' hn ho hf hg hg2 h0 he; exact .rz
  | rbad h1 ih => intro E' hn ho; cases ho
  | rstep h1 h2 ih1 ih2 =>
    intro E' hn ho hf hg hg2 h0 he
    have g1 := h1.grow
    have g2 := h2.grow
    exact .rstep (ih1 hn rfl (by omega) (by omega) (by omega) h0 (tk _ _ _ _ (by omega) he)) (ih2 hn ho hf hg hg2 (by omega) he)
  | ubad h h1 ih => intro E' hn ho; cases ho
  | uend h h1 h2 ih => intro E' hn ho hf hg hg2 h0 he; exact .uend h (ih hn ho hf hg hg2 h0 he) h2
  | ustop h h1 h2 h3 ih => intro E' hn ho; cases ho
  | ustep h h1 h2 h3 h4 ih1 ih2 =>
    intro E' hn ho hf hg hg2 h0 he
    have g1 := h1.grow
    have g2 := h4.grow
    simp only [MS.step] at g2
    exact .ustep h (ih1 hn rfl (by omega) (by omega) (by omega) h0 (tk _ _ _ _ (by omega) he)) h2 (by omega) (ih2 hn ho hf hg hg2 (by show 0 ≤ _; simp only [MS.step]; omega) he)
def thenE (r : Option (Option Int × MS)) (k : MS → Option (Option Int × MS)) : Option (Option Int × MS) :=
  match r with
  | some (none, m) => k m
  | r => r
def ev (E : Env) : Nat → Task → MS → Option (Option Int × MS)
  | 0, _, _ => none
  | d + 1, .l [], m => some (none, m)
  | d + 1, .l (x :: xs), m => if m.steps < E.fuel then thenE (ev E d (.s x) m.step) fun m1 => ev E d (.l xs) m1 else some (some 7, m)
  | d + 1, .s x, m =>
    if x.Kind = 7 then ev E d (.e x.R x.Body 0) m
    else if x.Kind = 8 then ev E d (.l (if flagAt m.flags x.F = true then x.Body else x.Else)) m
    else if (0 ≤ x.Kind ∧ x.Kind ≤ 6) ∨ x.Kind = 11 ∨ x.Kind = 13 ∨ x.Kind = 14 then some (none, prim E.n x m)
    else none
  | d + 1, .e r xs i, m => if (i : Int) < E.n then thenE (ev E d (.l xs) (m.setR r i)) fun m1 => ev E d (.e r xs (i + 1)) m1 else some (none, m)
  | _ + 1, _, _ => none
theorem thenE_some {r : Option (Option Int × MS)} {k : MS → Option (Option Int × MS)} {o : Option Int} {m : MS} (h : thenE r k = some (o, m)) : (∃ e, r = some (some e, m) ∧ o = some e) ∨ ∃ m1, r = some (none, m1) ∧ k m1 = some (o, m) := by
  match r, h with
  | none, h => cases h
  | some (none, m1), h => exact .inr ⟨m1, rfl, h⟩
  | some (some e, m1), h => simp only [thenE, Option.some.injEq, Prod.mk.injEq] at h; exact .inl ⟨e, by rw [h.2], h.1.symm⟩
theorem ev_ex (E : Env) : ∀ (d : Nat) (T : Task) (m : MS) (o : Option Int) (m' : MS), ev E d T m = some (o, m') → Ex E T m o m' := by
  intro d
  induction d with
  | zero => intro T m o m' h; cases h
  | succ d ih =>
    intro T m o m' h
    cases T with
    | l xs =>
      cases xs with
      | nil => simp only [ev, Option.some.injEq, Prod.mk.injEq] at h; obtain ⟨rfl, rfl⟩ := h; exact .nil
      | cons x xs =>
        simp only [ev] at h
        split at h
        · rename_i hs
          rcases thenE_some h with ⟨e, h1, rfl⟩ | ⟨m1, h1, h2⟩
          · exact .bad hs (ih _ _ _ _ h1)
          · exact .cons hs (ih _ _ _ _ h1) (ih _ _ _ _ h2)
        · rename_i hs
          simp only [Option.some.injEq, Prod.mk.injEq] at h
          obtain ⟨rfl, rfl⟩ := h
          exact .stop hs
    | s x =>
      simp only [ev] at h
      split at h
      · rename_i hk; exact .each hk (ih _ _ _ _ h)
      · split at h
        · rename_i hk; exact .cond hk (ih _ _ _ _ h)
        · split at h
          · rename_i hk
            simp only [Option.some.injEq, Prod.mk.injEq] at h
            obtain ⟨rfl, rfl⟩ := h
            exact .prim (by unfold isPrim; omega)
          · cases h
    | e r xs i =>
      simp only [ev] at h
      split at h
      · rename_i hs
        rcases thenE_some h with ⟨e, h1, rfl⟩ | ⟨m1, h1, h2⟩
        · exact .ebad hs (ih _ _ _ _ h1)
        · exact .estep hs (ih _ _ _ _ h1) (ih _ _ _ _ h2)
      · rename_i hs
        simp only [Option.some.injEq, Prod.mk.injEq] at h
        obtain ⟨rfl, rfl⟩ := h
        exact .eend hs
    | t xs k => cases h
    | r xs k j => cases h
def nameE : ByteArray := ⟨#[69]⟩
def noLit : GLit := ⟨0, false, ⟨#[]⟩, []⟩
def edgesC : GCode := ⟨2, 2, [], [⟨7, 0, 0, 0, 0, ⟨#[]⟩, ⟨#[]⟩, noLit, [], [⟨7, 0, 0, 1, 0, ⟨#[]⟩, ⟨#[]⟩, noLit, [], [⟨0, 1, 0, 0, 0, ⟨#[]⟩, ⟨#[]⟩, ⟨0, false, nameE, [0, 1]⟩, [], [], []⟩, ⟨3, 0, 1, 0, 0, ⟨#[]⟩, ⟨#[]⟩, noLit, [], [], []⟩], []⟩], []⟩]⟩
def edgesS : GStr := ⟨2, [⟨nameE, 2, [[0, 1]]⟩]⟩
theorem edges_bad : (checkedP edgesC).bad = false := by kernel_rfl
theorem edges_S : (checkedP edgesC).S = [(nameE, 2)] := by kernel_rfl
theorem edges_valid : validStr edgesS = true := by kernel_rfl
theorem edges_find : findI edgesS nameE 2 = 0 := by kernel_rfl
theorem edges_ev : (ev ⟨2, [], 100⟩ 40 (.l edgesC.Body) (m0 edgesC edgesS)).map (fun r => (r.1, flagAt r.2.flags 0, r.2.steps)) = some (none, true, 11) := by kernel_rfl
theorem edges_time : timeR edgesC = ([1, 1, 2], 0) := by
  have h1 : untilB edgesC.Body = false := by kernel_rfl
  have h2 : timeL edgesC.Body [] = [1, 1, 2] := by kernel_rfl
  rw [timeR, if_neg (by rw [edges_bad]; simp), if_neg (by rw [h1]; simp), h2, if_neg (by simp)]
theorem edges_run {b : Bool} {n g e : Int} (h : RunR edgesC edgesS [] 100 b n g e) : b = true ∧ n = 11 ∧ e = 0 := by
  have hok : RunOk edgesC edgesS 100 := ⟨edges_bad, edges_valid, by rw [edges_S]; intro p hp; simp at hp; subst hp; rw [edges_find]; omega, by omega, by intro a ha; cases ha⟩
  have he := edges_ev
  obtain ⟨o, m', hm⟩ : ∃ o m', ev ⟨2, [], 100⟩ 40 (.l edgesC.Body) (m0 edgesC edgesS) = some (o, m') := by
    cases hv : ev ⟨2, [], 100⟩ 40 (.l edgesC.Body) (m0 edgesC edgesS) with
    | none => rw [hv] at he; cases he
    | some r => exact ⟨r.1, r.2, rfl⟩
  rw [hm] at he
  simp only [Option.map_some, Option.some.injEq, Prod.mk.injEq] at he
  obtain ⟨rfl, h2, h3⟩ := he
  have hx := ev_ex _ _ _ _ _ _ hm
  cases h with
  | form h => rcases h with h | h
              · rw [edges_bad] at h; cases h
              · rw [edges_valid] at h; cases h
  | name h1 h2' p hp h => have := hok.found p hp; omega
  | arg h1 h2' h3' h => omega
  | size h1 h2' h3' h4 a ha h => cases ha
  | ok h hx2 =>
    obtain ⟨_, rfl⟩ := hx.det hx2
    exact ⟨h2, h3, rfl⟩
  | stop h hx2 => exact absurd (hx.det hx2).1 (by simp)
theorem law_edges : Tri Tryz.prog 13 [] [] (D edgesC.av []) := by
  refine Tri.enter 13 Tryz.func13 rfl rfl rfl rfl fun Fr w0 => ?_
  repeat' (first | (refine AW.r 0 ?_; refine AL.alloc_z (t := 25) (.st [.int .i64 0, .int .i64 0, .sl [], .sl []]) (by kernel_rfl) rfl rfl fun br => ?_; refine AL.nil ?_) | refine AW.jt ?_ | refine AW.jf ?_ | refine AW.jj (fun hb => ?_) (fun hb => ?_) | refine AW.go ?_ | fail)
  repeat' (first | (refine AW.r 1 ?_; refine AL.d (AOp.lit (t := 32) (e := 3) (sz := 1) (by kernel_rfl) rfl rfl rfl (by simp [AV.size, ofConst]) (by decide)) ?_; refine AL.d (AOp.build (pl := [(0, 1), (1, 1), (2, 1), (3, 1)]) (z := .st [.int .i64 0, .bool false, .str ⟨#[]⟩, .sl []]) (by kernel_rfl) rfl rfl rfl) ?_ <;> refine AL.d (AOp.build (pl := [(0, 1), (1, 1), (2, 1), (3, 1), (4, 1), (5, 1), (6, 1), (7, 4), (11, 1), (12, 1), (13, 1)]) (z := .st [.int .i64 0, .int .i64 0, .int .i64 0, .int .i64 0, .int .i64 0, .str ⟨#[]⟩, .str ⟨#[]⟩, .st [.int .i64 0, .bool false, .str ⟨#[]⟩, .sl []], .sl [], .sl [], .sl []]) (by kernel_rfl) rfl rfl rfl) ?_ <;> refine AL.alloc_store (by kernel_rfl) rfl rfl rfl rfl ?_ <;> refine AL.nil ?_) | refine AW.jt ?_ | refine AW.jf ?_ | refine AW.jj (fun hb => ?_) (fun hb => ?_) | refine AW.go ?_ | fail)
  repeat' (first | (refine AW.r 2 ?_; (first | refine AL.d AOp.la ?_ | refine AL.d (AOp.lw 0) ?_) <;> refine AL.d (AOp.build (pl := [(0, 1), (1, 1), (2, 1), (3, 1), (4, 1), (5, 1), (6, 1), (7, 4), (11, 1), (12, 1), (13, 1)]) (z := .st [.int .i64 0, .int .i64 0, .int .i64 0, .int .i64 0, .int .i64 0, .str ⟨#[]⟩, .str ⟨#[]⟩, .st [.int .i64 0, .bool false, .str ⟨#[]⟩, .sl []], .sl [], .sl [], .sl []]) (by kernel_rfl) rfl rfl rfl) ?_ <;> refine AL.d (AOp.lit (t := 23) (e := 77) (sz := 14) (by kernel_rfl) rfl rfl rfl (by simp [AV.size, AV.sizes, ofConst]) (by decide)) ?_ <;> refine AL.d (AOp.build (pl := [(0, 1), (1, 1), (2, 1), (3, 1), (4, 1), (5, 1), (6, 1), (7, 4), (11, 1), (12, 1), (13, 1)]) (z := .st [.int .i64 0, .int .i64 0, .int .i64 0, .int .i64 0, .int .i64 0, .str ⟨#[]⟩, .str ⟨#[]⟩, .st [.int .i64 0, .bool false, .str ⟨#[]⟩, .sl []], .sl [], .sl [], .sl []]) (by kernel_rfl) rfl rfl rfl) ?_ <;> refine AL.d (AOp.lit (t := 23) (e := 77) (sz := 14) (by kernel_rfl) rfl rfl rfl (by simp [AV.size, AV.sizes, ofConst]) (by decide)) ?_ <;> refine AL.d (AOp.build (pl := [(0, 1), (1, 1), (2, 1), (3, 1), (4, 1), (5, 1), (6, 1), (7, 4), (11, 1), (12, 1), (13, 1)]) (z := .st [.int .i64 0, .int .i64 0, .int .i64 0, .int .i64 0, .int .i64 0, .str ⟨#[]⟩, .str ⟨#[]⟩, .st [.int .i64 0, .bool false, .str ⟨#[]⟩, .sl []], .sl [], .sl [], .sl []]) (by kernel_rfl) rfl rfl rfl) ?_ <;> refine AL.d (AOp.lit (t := 23) (e := 77) (sz := 14) (by kernel_rfl) rfl rfl rfl (by simp [AV.size, AV.sizes, ofConst]) (by decide)) ?_ <;> refine AL.d (AOp.build (pl := [(0, 1), (1, 1), (2, 1), (3, 1)]) (z := .st [.int .i64 0, .int .i64 0, .sl [], .sl []]) (by kernel_rfl) rfl rfl rfl) ?_ <;> refine AL.sl 0 ?_ <;> refine AL.nil ?_) | refine AW.jt ?_ | refine AW.jf ?_ | refine AW.jj (fun hb => ?_) (fun hb => ?_) | refine AW.go ?_ | fail)
  exact AW.retc (.cell 0 rfl rfl (by kernel_rfl) .nil) (List.nil_sublist _) ⟨rfl, rfl⟩
theorem Ex.total {F R : Nat} {sig : ByteArray → Option Nat} (E : Env) : ∀ (n : Nat) (l : List GStmt), cntL l ≤ n → (∀ x ∈ l, SFit F R sig x) → ∀ m, m.steps ≤ E.fuel → ∃ o m', Ex E (.l l) m o m' := by
  intro n
  induction n using Nat.strongRecOn with
  | _ n ih =>
    intro l hn hl
    induction l with
    | nil => intro m _; exact ⟨none, m, .nil⟩
    | cons x l ihl =>
      intro m hm
      have hx := hl x (by simp)
      have hcs := cntS_eq x
      have hcl : cntL (x :: l) = cntS x + cntL l := rfl
      have hb := ih (cntL x.Body) (by omega) x.Body (Nat.le_refl _) hx.body
      have he := ih (cntL x.Else) (by omega) x.Else (Nat.le_refl _) hx.els
      have hs : ∀ u : MS, u.steps ≤ E.fuel → ∃ o m', Ex E (.s x) u o m' := by
        have hk := hx.fit.kind
        have hc : isPrim x.Kind ∨ x.Kind = 7 ∨ x.Kind = 8 ∨ x.Kind = 9 ∨ x.Kind = 10 ∨ x.Kind = 12 := by unfold isPrim; omega
        rcases hc with h | h | h | h | h | h
        · intro u _; exact ⟨_, _, .prim h⟩
        · have key : ∀ (j i : Nat), E.n.toNat - i = j → ∀ u : MS, u.steps ≤ E.fuel → ∃ o m', Ex E (.e x.R x.Body i) u o m' := by
            intro j
            induction j with
            | zero => intro i hi u hu; exact ⟨none, u, .eend (by omega)⟩
            | succ j ihj =>
              intro i hi u hu
              obtain ⟨o, m1, h1⟩ := hb (u.setR x.R i) hu
              cases o with
              | some e => exact ⟨_, _, .ebad (by omega) h1⟩
              | none =>
                obtain ⟨o, m2, h2⟩ := ihj (i + 1) (by omega) m1 (h1.grow.2.2.1 hu)
                exact ⟨_, _, .estep (by omega) h1 h2⟩
          intro u hu
          obtain ⟨o, m', h1⟩ := key _ 0 rfl u hu
          exact ⟨_, _, .each h h1⟩
        · intro u hu
          by_cases hf : flagAt u.flags x.F = true
          · obtain ⟨o, m', h1⟩ := hb u hu
            exact ⟨_, _, .cond h (by rw [if_pos hf]; exact h1)⟩
          · obtain ⟨o, m', h1⟩ := he u hu
            exact ⟨_, _, .cond h (by rw [if_neg hf]; exact h1)⟩
        · have key : ∀ (k : Nat) (u : MS), u.steps ≤ E.fuel → ∃ o m', Ex E (.t x.Body k) u o m' := by
            intro k
            induction k with
            | zero => intro u hu; obtain ⟨o, m', h1⟩ := hb u hu; exact ⟨_, _, .tz h1⟩
            | succ k ihk =>
              have key2 : ∀ (j : Nat) (u : MS), u.steps ≤ E.fuel → ∃ o m', Ex E (.r x.Body k j) u o m' := by
                intro j
                induction j with
                | zero => intro u hu; exact ⟨none, u, .rz⟩
                | succ j ihj =>
                  intro u hu
                  obtain ⟨o, m1, h1⟩ := ihk u hu
                  cases o with
                  | some e => exact ⟨_, _, .rbad h1⟩
                  | none =>
                    obtain ⟨o, m2, h2⟩ := ihj m1 (h1.grow.2.2.1 hu)
                    exact ⟨_, _, .rstep h1 h2⟩
              intro u hu
              obtain ⟨o, m', h1⟩ := key2 E.n.toNat u hu
              exact ⟨_, _, .ts h1⟩
          intro u hu
          by_cases h0 : x.Body = []
          · exact ⟨_, _, .t0 h h0⟩
          · obtain ⟨o, m', h1⟩ := key x.N.toNat u hu
            exact ⟨_, _, .t1 h h0 h1⟩
        · have key : ∀ (j : Nat) (u : MS), (E.fuel - u.steps).toNat = j → u.steps ≤ E.fuel → ∃ o m', Ex E (.s x) u o m' := by
            intro j
            induction j using Nat.strongRecOn with
            | _ j ihj =>
              intro u hj hu
              obtain ⟨o, m1, h1⟩ := hb u hu
              have g := h1.grow
              have g3 := g.2.2.1 hu
              cases o with
              | some e => exact ⟨_, _, .ubad h h1⟩
              | none =>
                by_cases hf : flagAt m1.flags x.F = true
                · exact ⟨_, _, .uend h h1 hf⟩
                · have hf' : flagAt m1.flags x.F = false := by simpa using hf
                  by_cases hs : m1.steps < E.fuel
                  · have hst : m1.step.steps = m1.steps + 1 := rfl
                    obtain ⟨o, m2, h2⟩ := ihj (E.fuel - m1.step.steps).toNat (by omega) m1.step rfl (by omega)
                    exact ⟨_, _, .ustep h h1 hf' hs h2⟩
                  · exact ⟨_, _, .ustop h h1 hf' hs⟩
          intro u hu
          exact key _ u rfl hu
        · intro u hu
          by_cases hg : (E.G.length : Int) - u.used < (u.rels x.Name).length
          · exact ⟨_, _, .gbad h hg⟩
          · exact ⟨_, _, .gok h hg⟩
      by_cases h1 : m.steps < E.fuel
      · obtain ⟨o, m1, h2⟩ := hs m.step (by show m.steps + 1 ≤ _; omega)
        cases o with
        | some e => exact ⟨_, _, .bad h1 h2⟩
        | none =>
          obtain ⟨o, m2, h3⟩ := ihl (by omega) (fun y hy => hl y (by simp [hy])) m1 (h2.grow.2.2.1 (by show m.steps + 1 ≤ _; omega))
          exact ⟨_, _, .cons h1 h2 h3⟩
      · exact ⟨_, _, .stop h1⟩
theorem RunR.total (c : GCode) (s : GStr) (G : List Bool) (fuel : Int) : ∃ b n g e, RunR c s G fuel b n g e := by
  by_cases h1 : (checkedP c).bad = true
  · exact ⟨_, _, _, _, .form (.inl h1)⟩
  have h1 : (checkedP c).bad = false := by simpa using h1
  by_cases h2 : validStr s = true
  · by_cases h3 : ∀ p ∈ (checkedP c).S, 0 ≤ findI s p.1 p.2
    · by_cases h4 : 0 ≤ fuel ∧ fuel ≤ 10000000
      · by_cases h5 : ∀ a ∈ c.Arrays, (powerR s.Size a.Arity).2 = 0
        · have hok : RunOk c s fuel := ⟨h1, h2, h3, h4, h5⟩
          obtain ⟨o, m, hx⟩ := Ex.total ⟨s.Size, G, fuel⟩ (cntL c.Body) c.Body (Nat.le_refl _) (chk_ok h1).body (m0 c s) h4.1
          cases o with
          | none => exact ⟨_, _, _, _, .ok hok hx⟩
          | some e => exact ⟨_, _, _, _, .stop hok hx⟩
        · have : ∃ a ∈ c.Arrays, (powerR s.Size a.Arity).2 ≠ 0 := by
            apply Classical.byContradiction
            intro hc
            exact h5 fun a ha => Classical.byContradiction fun hn => hc ⟨a, ha, hn⟩
          obtain ⟨a, ha, h⟩ := this
          exact ⟨_, _, _, _, .size h1 h2 h3 h4 a ha h⟩
      · exact ⟨_, _, _, _, .arg h1 h2 h3 (by omega)⟩
    · have : ∃ p ∈ (checkedP c).S, findI s p.1 p.2 < 0 := by
        apply Classical.byContradiction
        intro hc
        exact h3 fun p hp => Classical.byContradiction fun hn => hc ⟨p, hp, by omega⟩
      obtain ⟨p, hp, h⟩ := this
      exact ⟨_, _, _, _, .name h1 h2 p hp h⟩
  · exact ⟨_, _, _, _, .form (.inr (by simpa using h2))⟩
theorem RunR.det {c : GCode} {s : GStr} {G : List Bool} {fuel : Int} {b b' : Bool} {n n' g g' e e' : Int} (h : RunR c s G fuel b n g e) (k : RunR c s G fuel b' n' g' e') : b = b' ∧ n = n' ∧ g = g' ∧ e = e' := by
  cases h with
  | form h =>
    cases k with
    | form k => exact ⟨rfl, rfl, rfl, rfl⟩
    | ok k _ => rcases h with h | h; rw [k.bad] at h; cases h; rw [k.valid] at h; cases h
    | stop k _ => rcases h with h | h; rw [k.bad] at h; cases h; rw [k.valid] at h; cases h
    | _ => simp_all
  | name h1 h2 p hp h =>
    cases k with
    | name => exact ⟨rfl, rfl, rfl, rfl⟩
    | form k => simp_all
    | arg k1 k2 k3 k => have := k3 p hp; omega
    | size k1 k2 k3 k4 a ha k => have := k3 p hp; omega
    | ok k _ => have := k.found p hp; omega
    | stop k _ => have := k.found p hp; omega
  | arg h1 h2 h3 h =>
    cases k with
    | arg => exact ⟨rfl, rfl, rfl, rfl⟩
    | form k => simp_all
    | name k1 k2 p hp k => have := h3 p hp; omega
    | size k1 k2 k3 k4 a ha k => omega
    | ok k _ => have := k.fuel; omega
    | stop k _ => have := k.fuel; omega
  | size h1 h2 h3 h4 a ha h =>
    cases k with
    | size => exact ⟨rfl, rfl, rfl, rfl⟩
    | form k => simp_all
    | name k1 k2 p hp k => have := h3 p hp; omega
    | arg k1 k2 k3 k => omega
    | ok k _ => exact absurd (k.size a ha) h
    | stop k _ => exact absurd (k.size a ha) h
  | ok h hx =>
    cases k with
    | ok k kx => obtain ⟨_, rfl⟩ := hx.det kx; exact ⟨rfl, rfl, rfl, rfl⟩
    | stop k kx => exact absurd (hx.det kx).1 (by simp)
    | form k => rcases k with k | k; rw [h.bad] at k; cases k; rw [h.valid] at k; cases k
    | name k1 k2 p hp k => have := h.found p hp; omega
    | arg k1 k2 k3 k => have := h.fuel; omega
    | size k1 k2 k3 k4 a ha k => exact absurd (h.size a ha) k
  | stop h hx =>
    cases k with
    | ok k kx => exact absurd (hx.det kx).1 (by simp)
    | stop k kx => obtain ⟨e, _⟩ := hx.det kx; cases e; exact ⟨rfl, rfl, rfl, rfl⟩
    | form k => rcases k with k | k; rw [h.bad] at k; cases k; rw [h.valid] at k; cases k
    | name k1 k2 p hp k => have := h.found p hp; omega
    | arg k1 k2 k3 k => have := h.fuel; omega
    | size k1 k2 k3 k4 a ha k => exact absurd (h.size a ha) k
theorem Tri.forget {P : Program} {f : FuncId} {args : List AV} {Ψ : AEnd → Prop} (h : Tri P f args [] (fun x _ => Ψ x)) : Tri P f args [] (fun x h => Ψ x ∧ h = []) := by
  refine ⟨h.1, fun Fr w vs hst hrel => (h.2 Fr w vs hst hrel).mono fun e w' => ?_⟩
  rintro ⟨x, ah', hΨ, he, hs, hx, hn⟩
  have hsub := List.nil_sublist ah'
  refine ⟨x, [], ⟨hΨ, rfl⟩, ?_, hs.sub hsub, hx, fun b o _ hr => ?_⟩
  · cases x with
    | ret v => obtain ⟨u, e1, e2⟩ := he; exact ⟨u, e1, e2.mv (Mv.same w' fun b o hs => hs.elim .inl fun hr => .inr (reg_sub hsub hr))⟩
    | pan v => obtain ⟨u, e1, e2⟩ := he; exact ⟨u, e1, e2.mv (Mv.same w' fun b o hs => hs.elim .inl fun hr => .inr (reg_sub hsub hr))⟩
  · obtain ⟨y, hy, _⟩ := hr; cases hy
theorem code_RunD (c : GCode) (s : GStr) (G : List Bool) (fuel : Int) (hc : c.Ok) (hs : s.Ok) (hG : G.length ≤ 4611686018427387904) : ∃ b n g e, RunR c s G fuel b n g e ∧ Tri Tryz.prog 12 [c.av, s.av, bools G, .int .i64 fuel] [] (D (.tup [.bool b, .int .i64 n, .int .i64 g, .int .i64 e]) []) := by
  obtain ⟨b, n, g, e, h⟩ := RunR.total c s G fuel
  refine ⟨b, n, g, e, h, ((Tri.forget (code_RunC c s G fuel hc hs hG)).mono ?_)⟩
  rintro x a ⟨⟨b', n', g', e', h', rfl⟩, rfl⟩
  obtain ⟨rfl, rfl, rfl, rfl⟩ := h.det h'
  exact ⟨rfl, rfl⟩
theorem checked_S {c : GCode} (hb : (checkedP c).bad = false) : ∀ k, lookA (checkedP c).S k = arOf (testsL (arOf c.Arrays) c.Body []) k := by
  have hA := arrsP_iff c.Arrays (chk0 c) ⟨[], 0⟩ [] (fun k => rfl)
  have hcnt := arrsP_cnt c.Arrays (chk0 c) ⟨[], 0⟩
  have hc0 : (chk0 c).c = c := rfl
  have hS0 : (chk0 c).S = [] := rfl
  have hn0 : (chk0 c).cnt = 0 := rfl
  rw [hc0, hS0] at hA
  rw [hn0] at hcnt
  unfold checkedP at hb ⊢
  generalize (arrsP c.Arrays (chk0 c) ⟨[], 0⟩).1 = s1 at *
  obtain ⟨a1, a2, a3, a4⟩ := hA
  cases hp : s1.bad with
  | true =>
    have hbb : (bodyP c.Body s1).bad = true := by
      cases c.Body with
      | nil => exact hp
      | cons y l => rw [bodyP, if_pos hp]; exact hp
    rw [hbb] at hb; cases hb
  | false =>
    have hAr : lookA s1.A = arOf c.Arrays := funext fun k => by simpa using a2 hp k
    have hB := (bodyP_iff c.Body s1 [] hp (by rw [a4]; intro k; rfl) rfl (by omega)).2 hb
    rw [hAr] at hB
    exact hB.R
theorem checked_cons {c : GCode} (hb : (checkedP c).bad = false) : consT (testsL (arOf c.Arrays) c.Body []) = true ∧ cntL c.Body ≤ 20000 := by
  rw [checked_iff] at hb
  have h : refValid c = true := by simpa using hb
  unfold refValid at h
  simp only [bA, dT] at h
  exact ⟨h.2, h.1.2.1.1⟩
def goodT (a : GSym) : Prop := 0 ≤ a.Arity ∧ a.Arity ≤ 12 ∧ nameB a.Name = true
theorem ownT_good {A : Ar} {fl rg : Int} {s : GStmt} (h : refS A fl rg s = true) : ∀ a ∈ ownT A s, goodT a := by
  intro a ha
  unfold ownT at ha
  split at ha
  · rename_i hk
    rw [fldAll, if_pos hk.1] at h
    simp only [bA] at h
    have h2 := h.2
    unfold litB at h2
    rw [if_neg (by omega)] at h2
    simp only [bA, dT] at h2
    obtain rfl := List.mem_singleton.1 ha
    exact ⟨by simp, by have := h2.2.1.2; simp; omega, h2.2.1.1.2⟩
  · cases ha
mutual
theorem testsS_good {A : Ar} {fl rg : Int} : ∀ (s : GStmt) (out : List GSym), allS (refS A fl rg) s = true → (∀ a ∈ out, goodT a) → ∀ a ∈ testsS A s out, goodT a
  | ⟨k, f, g, r, n, nm, fr, lit, regs, body, els⟩, out, h, ho => by
    rw [allS, bA, bA] at h
    rw [testsS]
    exact testsL_good els _ h.2 (testsL_good body _ h.1.2 fun a ha => (List.mem_append.1 ha).elim (ho a) (ownT_good h.1.1 a))
theorem testsL_good {A : Ar} {fl rg : Int} : ∀ (l : List GStmt) (out : List GSym), allL (refS A fl rg) l = true → (∀ a ∈ out, goodT a) → ∀ a ∈ testsL A l out, goodT a
  | [], out, _, ho => by rw [testsL]; exact ho
  | s :: l, out, h, ho => by
    rw [allL, bA] at h
    rw [testsL]
    exact testsL_good l _ h.2 (testsS_good s out h.1 ho)
end
def symsT (c : GCode) : List GSym := testsL (arOf c.Arrays) c.Body []
theorem symsT_good {c : GCode} (hb : (checkedP c).bad = false) : ∀ a ∈ symsT c, goodT a := testsL_good c.Body [] (ref_all hb) (by simp)
theorem symsT_ok {c : GCode} (hb : (checkedP c).bad = false) : symOkT (symsT c) := by
  have h1 := testsL_len (arOf c.Arrays) c.Body []
  have h2 := (checked_cons hb).2
  rw [List.length_nil, Nat.zero_add] at h1
  exact ⟨Nat.le_trans h1 (by omega), fun a ha => by have := symsT_good hb a ha; exact ⟨this.1, by have := this.2.1; omega⟩⟩
theorem arOf_mem {T : List GSym} (hc : consT T = true) {a : GSym} (h : a ∈ T) : arOf T a.Name = some a.Arity := by
  unfold consT at hc
  simpa using List.all_eq_true.1 hc a h
theorem arOf_some {T : List GSym} {k : ByteArray} {n : Int} (h : arOf T k = some n) : ∃ a ∈ T, a.Name = k ∧ a.Arity = n := by
  unfold arOf at h
  rw [Option.map_eq_some_iff] at h
  obtain ⟨a, h1, h2⟩ := h
  have := List.find?_some h1
  exact ⟨a, List.mem_of_find?_eq_some h1, by simpa using this, h2⟩
theorem name_ne {a : GSym} (h : goodT a) : a.Name ≠ empS := by
  intro e
  have := h.2.2
  rw [e] at this
  simp [nameB, empS, ByteArray.size] at this
theorem ordGo_mem : ∀ (l : List GSym) (o : List ByteArray) (x : ByteArray), x ∈ ordGo l o ↔ x ∈ o ∨ (x ≠ empS ∧ ∃ a ∈ l, a.Name = x)
  | [], o, x => by simp [ordGo]
  | a :: l, o, x => by
    rw [ordGo, ordGo_mem l]
    by_cases h : a.Name = empS
    · rw [if_pos h]
      constructor
      · rintro (h1 | ⟨h1, b, h2, h3⟩)
        · exact .inl h1
        · exact .inr ⟨h1, b, by simp [h2], h3⟩
      · rintro (h1 | ⟨h1, b, h2, h3⟩)
        · exact .inl h1
        · rcases List.mem_cons.1 h2 with rfl | h2
          · exact absurd (h3 ▸ h) h1
          · exact .inr ⟨h1, b, h2, h3⟩
    · rw [if_neg h, risP_mem]
      constructor
      · rintro ((h1 | h1) | ⟨h1, b, h2, h3⟩)
        · exact .inr ⟨by rw [h1]; exact h, a, by simp, h1.symm⟩
        · exact .inl h1
        · exact .inr ⟨h1, b, by simp [h2], h3⟩
      · rintro (h1 | ⟨h1, b, h2, h3⟩)
        · exact .inl (.inr h1)
        · rcases List.mem_cons.1 h2 with rfl | h2
          · exact .inl (.inl h3.symm)
          · exact .inr ⟨h1, b, h2, h3⟩
theorem ref_Symbols (c : GCode) (hc : c.Ok) (hb : (checkedP c).bad = false) : Tri Tryz.prog 7 [c.av] [] (D (.sl ((symsP (symsT c)).map GSym.av)) []) := by
  have hcnt := (checked_cons hb).2
  have hbl : c.Body.length ≤ 4611686018427387904 := by have := hc.2.2.2.1; omega
  have hT := ref_tests c hc (cntL c.Body) c.Body (Nat.le_refl _) hbl hc.2.2.2.2 [] none 0 (by simp; omega)
  have hok := symsT_ok hb
  have h7 := ref_Symbols7 (symsT c) hok
  change Tri _ _ _ _ (fun x h => ∃ b' c', x = .ret (.slt ((symsT c).map GSym.av) b' c') ∧ h = [.tail b' ((symsT c).map GSym.av).length c' 2]) at hT
  generalize symsT c = T at *
  obtain ⟨hTl, hTa⟩ := hok
  refine Tri.enter 37 Tryz.func7 rfl rfl rfl rfl fun Fr w0 => ?_
  repeat' (first | (refine AW.r 0 ?_; (first | refine AL.d (AOp.box_ro rfl rfl) ?_ | refine AL.d (AOp.box_ro rfl rfl) ?_) <;> refine AL.es 1 ?_ <;> refine AL.nil ?_) | refine AW.jt ?_ | refine AW.jf ?_ | refine AW.jj (fun hb => ?_) (fun hb => ?_) | refine AW.go ?_ | fail)
  repeat' (first | (refine AW.r 1 ?_; refine AL.alloc_z (.st [.st [.str empS, .sl []], nilS]) (by kernel_rfl) rfl rfl fun b3 => ?_; refine AL.nil ?_) | refine AW.jt ?_ | refine AW.jf ?_ | refine AW.jj (fun hb => ?_) (fun hb => ?_) | refine AW.go ?_ | fail)
  refine AW.recast 0 (c' := .st [.st [.str empS, .sl []], .slt [] none 0]) rfl (fun S w cs h => rel_last h fun cs h => nil_slt _ _ _ h) ?_
  refine AW.own_nil 2 ?_
  repeat' (first | refine AW.jt ?_ | refine AW.jf ?_ | refine AW.jj (fun hb => ?_) (fun hb => ?_) | refine AW.go ?_ | fail)
  refine AW.region_at 2 ?_
  refine AL.d AOp.la ?_
  refine AL.d AOp.fa ?_
  refine AL.d AOp.la ?_
  refine AL.step rfl rfl (AOp.callV (args := [c.av, .sl (c.Body.map GStmt.av), .slt [] none 0]) rfl (fun S w a hfr => ?_) (Tri.frame [true, false] hT)) ?_ (by rintro _ _ ⟨_, ⟨_, _, e, _⟩, _⟩; cases e)
  · have h1 := aeval_rel hfr (x := .tmp 6) rfl
    have h2 := aeval_rel hfr (x := .tmp 8) rfl
    simp only [RelVs]
    exact ⟨_, _, rfl, h1.1, h1.2, _, _, rfl, h2.1, h2.2, _, _, rfl, (rel_nil (S := S) (w := w)).1, (rel_nil (S := S) (w := w)).2, rfl⟩
  rintro _ _ ⟨_, ⟨tb, tc, e, rfl⟩, rfl⟩
  injection e with e
  subst e
  refine AL.e ?_
  refine AL.nil ?_
  refine AW.as_sl 4 rfl ?_
  refine AW.drop (ah' := [.box b3 (.st [.st [.str empS, .sl []], .slt [] none 0])]) (List.sublist_cons_self _ _) ?_
  refine AW.own_nil 4 ?_
  repeat' (first | refine AW.re 3 1 ?_ | refine AW.jt ?_ | refine AW.jf ?_ | refine AW.jj (fun hb => ?_) (fun hb => ?_) | refine AW.go ?_ | fail)
  refine AW.prune [3, 4, 5] (AW.loop (fun mz af h => ∃ (i : Nat) (tb : Option Nat) (tc : Nat), i ≤ T.length ∧ mz = T.length - i ∧ af = [(3, .ref b3 0), (4, .sl (T.map GSym.av)), (5, .int .i64 i)] ∧ h = [.tail tb ((T.take i).map condA).length tc 4, .box b3 (.st [.st [.str empS, .sl []], .slt ((T.take i).map condA) tb tc])] ∧ True) T.length ⟨0, none, 0, Nat.zero_le _, rfl, rfl, rfl, trivial⟩ ?_)
  rintro mz af h ⟨i, tb, tc, hi, rfl, rfl, rfl, he⟩
  refine AW.seq ?_
  by_cases hlt : i < T.length
  · obtain ⟨x, hx⟩ := get_lt hlt
    have hxa := hTa x (lG hx)
    obtain ⟨nm, ar⟩ := x
    obtain ⟨k, hk⟩ := Int.eq_ofNat_of_zero_le hxa.1
    simp only at hk
    subst hk
    simp only at hxa
    have hx' : (T.map GSym.av)[((i : Nat) : Int).toNat]? = some (.st [.str nm, .int .i64 k]) := map_get hx
    have htl : (T.take i).length ≤ 100000 := by rw [List.length_take]; omega
    repeat' (first | refine AW.re 4 4 ?_ | refine AW.jt ?_ | refine AW.jf ?_ | refine AW.jj (fun hb => ?_) (fun hb => ?_) | refine AW.go ?_ | fail)
    all_goals try (exfalso; simp only [dT, dF, lM] at *; omega)
    repeat' (first | (refine AW.ex 6 [true, true] [16, 18] ?_; (first | refine AQE.p rfl AOp.fa ?_ | refine AQE.p rfl (AOp.fr 2) ?_) <;> (first | refine AQE.p rfl AOp.la ?_ | refine AQE.p rfl (AOp.ll 0) ?_ | refine AQE.pe rfl (AOp.ll 0) ?_ | refine AQE.p rfl (AOp.ll 1) ?_ | refine AQE.pe rfl (AOp.ll 1) ?_) <;> refine AQE.e ?_ <;> refine AQE.e ?_ <;> refine AQE.p rfl (iX hx') ?_ <;> (first | refine AQE.p rfl AOp.fa ?_ | refine AQE.p rfl (AOp.fr 0) ?_) <;> (first | refine AQE.p rfl AOp.la ?_ | refine AQE.p rfl (AOp.ll 0) ?_ | refine AQE.pe rfl (AOp.ll 0) ?_ | refine AQE.p rfl (AOp.ll 1) ?_ | refine AQE.pe rfl (AOp.ll 1) ?_) <;> refine AQE.e ?_ <;> refine AQE.e ?_ <;> refine AQE.p rfl (iX hx') ?_ <;> (first | refine AQE.p rfl AOp.fa ?_ | refine AQE.p rfl (AOp.fr 1) ?_) <;> (first | refine AQE.p rfl AOp.la ?_ | refine AQE.p rfl (AOp.ll 0) ?_ | refine AQE.pe rfl (AOp.ll 0) ?_ | refine AQE.p rfl (AOp.ll 1) ?_ | refine AQE.pe rfl (AOp.ll 1) ?_) <;> refine AQE.p rfl (AOp.makeSlice_ro (n := k) (e := 9) (c := .string ⟨#[]⟩) (z := .str empS) (bytes := 16) rfl rfl (by kernel_rfl) rfl rfl (by omega) (by omega)) ?_ <;> refine AQE.p rfl (AOp.build (pl := [(0, 1), (1, 1)]) (z := .st [.str ⟨#[]⟩, .sl []]) (by kernel_rfl) rfl rfl rfl) ?_ <;> refine AQE.p rfl (AOp.build (pl := [(0, 1), (1, 1), (2, 2)]) (z := .st [.int .i64 0, .bool false, .st [.str ⟨#[]⟩, .sl []]]) (by kernel_rfl) rfl rfl rfl) ?_ <;> refine AQE.p rfl (AOp.lit (e := 62) (sz := 4) (by kernel_rfl) rfl rfl rfl (P_one rfl) (by decide)) ?_ <;> refine AQE.hl ?_ <;> (first | refine AQE.p rfl AOp.fa ?_ | refine AQE.p rfl (AOp.fr 2) ?_) <;> refine AQE.hl ?_ <;> refine AQE.nil ?_ <;> refine AX.o (n := 1) 16 ?_ <;> refine AXO.append (i := 0) (e := 62) (sz := 4) (bytes := 56) rfl rfl rfl rfl (by kernel_rfl) (by kernel_rfl) (by repeat' (first | exact P_nil | refine P_app ?_ ?_ | refine P_take ?_ | refine P_drop ?_ | exact P_map fun _ => rfl | exact P_one rfl | exact P_rep rfl)) (by repeat' (first | exact P_nil | refine P_app ?_ ?_ | refine P_take ?_ | refine P_drop ?_ | exact P_map fun _ => rfl | exact P_one rfl | exact P_rep rfl)) (ok_all (by repeat' (first | exact P_nil | refine P_app ?_ ?_ | refine P_take ?_ | refine P_drop ?_ | exact P_map fun _ => rfl | exact P_one rfl | exact P_rep rfl))) (by (try simp only [lA, lM, List.length_take, List.length_drop, List.length_cons, List.length_nil, List.length_replicate]); omega) (by (try simp only [lA, lM, List.length_take, List.length_drop, List.length_cons, List.length_nil, List.length_replicate]); omega) rfl fun b' c' => ?_ <;> try dsimp only [sA, sB, sC, sD] <;> refine AX.o (n := 0) 18 ?_ <;> (first | refine AXO.sl 0 fun _ => ?_ | refine AXO.sl 1 fun _ => ?_) <;> try dsimp only [sA, sB, sC, sD] <;> refine AX.done_keep [0, 1, 2, 3, 4, 5, 6, 7, 8, 9, 10, 11, 12, 13, 14, 15, 34, 35, 36] ?_) | (refine xS 5 1 ?_; refine AL.d AOp.ad ?_; refine xN 1 ?_) | refine AW.jt ?_ | refine AW.jf ?_ | refine AW.jj (fun hb => ?_) (fun hb => ?_) | refine AW.go ?_ | fail)
    have htk : T.take (i + 1) = T.take i ++ [(⟨nm, (k : Int)⟩ : GSym)] := by rw [List.take_add_one, hx]; rfl
    have hmm : (T.take (i + 1)).map condA = (T.take i).map condA ++ [condA ⟨nm, (k : Int)⟩] := by rw [htk]; simp
    refine AW.again_keep (T.length - (i + 1)) [3, 4, 5] (by omega) ⟨i + 1, b', c', hlt, rfl, rfl, ?_, trivial⟩
    rw [hmm]; rfl
  · have hti : i = T.length := by omega
    subst hti
    rw [List.take_length]
    repeat' (first | refine AW.re 4 4 ?_ | refine AW.jt ?_ | refine AW.jf ?_ | refine AW.jj (fun hb => ?_) (fun hb => ?_) | refine AW.go ?_ | fail)
    all_goals try (exfalso; simp only [dT, dF, lM] at *; omega)
    refine AW.recast 1 (c' := .st [.st [.str empS, .sl []], .sl (T.map condA)]) rfl (fun S w cs h => rel_last h fun cs h => slt_sl _ _ _ h) ?_
    repeat' (first | (refine AW.r 7 ?_; (first | refine AL.d AOp.la ?_ | refine AL.d (AOp.lw 0) ?_ | refine AL.d (AOp.lw 1) ?_) <;> refine AL.d (AOp.lit (e := 60) (sz := 3) (by kernel_rfl) rfl rfl rfl (P_one rfl) (by decide)) ?_ <;> refine AL.d (AOp.call rfl rfl (h7.pure _)) ?_ <;> refine AL.es 1 ?_ <;> refine AL.nil ?_) | refine AW.jt ?_ | refine AW.jf ?_ | refine AW.jj (fun hb => ?_) (fun hb => ?_) | refine AW.go ?_ | fail)
    exact AW.ret_drop rfl (List.nil_sublist _) ⟨rfl, rfl⟩
end Go.Proofs.YtkolalhekgmmdaaGreat
namespace Go.Proofs
open Go.Shelf
def Tryz.keys25_ren : Go.Shelf.Ren := ⟨fun | 7 => 25 | 10 => 52 | n => n, fun | 23 => 65 | 26 => 9 | 3 => 3 | 28 => 72 | 0 => 0 | 27 => 71 | 33 => 46 | 4 => 4 | n => n, fun | n => n⟩
theorem Tryz.keys25 : Go.Proofs.SlLaysZ.n7 Tryz.prog Tryz.keys25_ren := {
  mixed := by kernel_rfl
  f7 := ⟨Tryz.f25.name, by decide, Tryz.func25.trans (congrArg some (by kernel_rfl))⟩
  f10 := ⟨Tryz.f52.name, by decide, Tryz.func52.trans (congrArg some (by kernel_rfl))⟩
  t0 := Tryz.underlying0
  a0 := Tryz.isAgg0
  z0 := Tryz.sizeOf0
  v0 := Tryz.zeroValue0
  t4 := Tryz.underlying4
  a4 := Tryz.isAgg4
  z4 := Tryz.sizeOf4
  v4 := Tryz.zeroValue4
  t23 := Tryz.underlying65
  a23 := Tryz.isAgg65
  z23 := Tryz.sizeOf65
  v23 := Tryz.zeroValue65
  t26 := Tryz.underlying9
  a26 := Tryz.isAgg9
  z26 := Tryz.sizeOf9
  v26 := Tryz.zeroValue9
  t27 := Tryz.underlying71
  a27 := Tryz.isAgg71
  z27 := Tryz.sizeOf71
  v27 := Tryz.zeroValue71
  t28 := Tryz.underlying72
  a28 := Tryz.isAgg72
  z28 := Tryz.sizeOf72
  v28 := Tryz.zeroValue72
  t33 := Tryz.underlying46
  a33 := Tryz.isAgg46
  z33 := Tryz.sizeOf46
  v33 := Tryz.zeroValue46 }
def Tryz.sorted24_ren : Go.Shelf.Ren := ⟨fun | 6 => 24 | 8 => 50 | 9 => 51 | 11 => 96 | 13 => 98 | 12 => 97 | 23 => 117 | 24 => 118 | 14 => 108 | 15 => 109 | 16 => 110 | 17 => 111 | 18 => 112 | 19 => 113 | 20 => 114 | 21 => 115 | 22 => 116 | 25 => 122 | 26 => 123 | 27 => 124 | 28 => 125 | 29 => 126 | 30 => 127 | 31 => 129 | n => n, fun | 26 => 9 | 28 => 72 | 24 => 55 | 0 => 0 | 3 => 3 | 37 => 137 | 48 => 153 | 50 => 155 | 4 => 4 | 40 => 146 | 39 => 145 | 45 => 106 | 5 => 5 | 9 => 9 | 51 => 158 | 55 => 162 | 57 => 164 | 58 => 51 | 33 => 46 | n => n, fun | n => n⟩
theorem Tryz.sorted24 : Go.Proofs.SlLaysZ.n6 Tryz.prog Tryz.sorted24_ren := {
  mixed := by kernel_rfl
  f6 := ⟨Tryz.f24.name, by decide, Tryz.func24.trans (congrArg some (by kernel_rfl))⟩
  f8 := ⟨Tryz.f50.name, by decide, Tryz.func50.trans (congrArg some (by kernel_rfl))⟩
  f11 := ⟨Tryz.f96.name, by decide, Tryz.func96.trans (congrArg some (by kernel_rfl))⟩
  t0 := Tryz.underlying0
  a0 := Tryz.isAgg0
  z0 := Tryz.sizeOf0
  v0 := Tryz.zeroValue0
  t24 := Tryz.underlying55
  a24 := Tryz.isAgg55
  z24 := Tryz.sizeOf55
  v24 := Tryz.zeroValue55
  t26 := Tryz.underlying9
  a26 := Tryz.isAgg9
  z26 := Tryz.sizeOf9
  v26 := Tryz.zeroValue9
  t28 := Tryz.underlying72
  a28 := Tryz.isAgg72
  z28 := Tryz.sizeOf72
  v28 := Tryz.zeroValue72
  i26 := by kernel_rfl }
def Tryz.sort51_ren : Go.Shelf.Ren := ⟨fun | 6 => 51 | 8 => 98 | 9 => 97 | 19 => 117 | 20 => 118 | 21 => 108 | 22 => 109 | 23 => 110 | 24 => 111 | 25 => 112 | 26 => 113 | 27 => 114 | 28 => 115 | 29 => 116 | 36 => 122 | 31 => 123 | 32 => 124 | 37 => 125 | 38 => 126 | 39 => 127 | 41 => 129 | n => n, fun | 27 => 55 | 29 => 9 | 3 => 3 | 32 => 137 | 26 => 55 | 0 => 0 | 44 => 153 | 46 => 155 | 4 => 4 | 36 => 146 | 35 => 145 | 41 => 106 | 5 => 5 | 9 => 9 | 53 => 158 | 57 => 162 | 63 => 164 | 64 => 51 | n => n, fun | n => n⟩
theorem Tryz.sort51 : Go.Proofs.SlLaysM.n6 Tryz.prog Tryz.sort51_ren := {
  mixed := by kernel_rfl
  f6 := ⟨Tryz.f51.name, by decide, Tryz.func51.trans (congrArg some (by kernel_rfl))⟩
  f8 := Tryz.func98.trans (congrArg some (by kernel_rfl))
  f9 := ⟨Tryz.f97.name, by decide, Tryz.func97.trans (congrArg some (by kernel_rfl))⟩
  f19 := Tryz.func117.trans (congrArg some (by kernel_rfl))
  f20 := Tryz.func118.trans (congrArg some (by kernel_rfl))
  f21 := ⟨Tryz.f108.name, by decide, Tryz.func108.trans (congrArg some (by kernel_rfl))⟩
  f22 := ⟨Tryz.f109.name, by decide, Tryz.func109.trans (congrArg some (by kernel_rfl))⟩
  f23 := ⟨Tryz.f110.name, by decide, Tryz.func110.trans (congrArg some (by kernel_rfl))⟩
  f24 := ⟨Tryz.f111.name, by decide, Tryz.func111.trans (congrArg some (by kernel_rfl))⟩
  f25 := ⟨Tryz.f112.name, by decide, Tryz.func112.trans (congrArg some (by kernel_rfl))⟩
  f26 := ⟨Tryz.f113.name, by decide, Tryz.func113.trans (congrArg some (by kernel_rfl))⟩
  f27 := ⟨Tryz.f114.name, by decide, Tryz.func114.trans (congrArg some (by kernel_rfl))⟩
  f28 := ⟨Tryz.f115.name, by decide, Tryz.func115.trans (congrArg some (by kernel_rfl))⟩
  f29 := ⟨Tryz.f116.name, by decide, Tryz.func116.trans (congrArg some (by kernel_rfl))⟩
  f31 := Tryz.func123.trans (congrArg some (by kernel_rfl))
  f32 := Tryz.func124.trans (congrArg some (by kernel_rfl))
  f36 := ⟨Tryz.f122.name, by decide, Tryz.func122.trans (congrArg some (by kernel_rfl))⟩
  f37 := ⟨Tryz.f125.name, by decide, Tryz.func125.trans (congrArg some (by kernel_rfl))⟩
  f38 := ⟨Tryz.f126.name, by decide, Tryz.func126.trans (congrArg some (by kernel_rfl))⟩
  f39 := ⟨Tryz.f127.name, by decide, Tryz.func127.trans (congrArg some (by kernel_rfl))⟩
  f41 := ⟨Tryz.f129.name, by decide, Tryz.func129.trans (congrArg some (by kernel_rfl))⟩
  t0 := Tryz.underlying0
  a0 := Tryz.isAgg0
  z0 := Tryz.sizeOf0
  v0 := Tryz.zeroValue0
  t3 := Tryz.underlying3
  a3 := Tryz.isAgg3
  z3 := Tryz.sizeOf3
  v3 := Tryz.zeroValue3
  t4 := Tryz.underlying4
  a4 := Tryz.isAgg4
  z4 := Tryz.sizeOf4
  v4 := Tryz.zeroValue4
  t5 := Tryz.underlying5
  a5 := Tryz.isAgg5
  z5 := Tryz.sizeOf5
  v5 := Tryz.zeroValue5
  t9 := Tryz.underlying9
  a9 := Tryz.isAgg9
  z9 := Tryz.sizeOf9
  v9 := Tryz.zeroValue9
  t26 := Tryz.underlying55
  a26 := Tryz.isAgg55
  z26 := Tryz.sizeOf55
  v26 := Tryz.zeroValue55
  t27 := Tryz.underlying55
  a27 := Tryz.isAgg55
  z27 := Tryz.sizeOf55
  v27 := Tryz.zeroValue55
  t29 := Tryz.underlying9
  a29 := Tryz.isAgg9
  z29 := Tryz.sizeOf9
  v29 := Tryz.zeroValue9
  t32 := Tryz.underlying137
  a32 := Tryz.isAgg137
  z32 := Tryz.sizeOf137
  v32 := Tryz.zeroValue137
  t35 := Tryz.underlying145
  a35 := Tryz.isAgg145
  z35 := Tryz.sizeOf145
  v35 := Tryz.zeroValue145
  t36 := Tryz.underlying146
  a36 := Tryz.isAgg146
  z36 := Tryz.sizeOf146
  v36 := Tryz.zeroValue146
  t41 := Tryz.underlying106
  a41 := Tryz.isAgg106
  z41 := Tryz.sizeOf106
  v41 := Tryz.zeroValue106
  t44 := Tryz.underlying153
  a44 := Tryz.isAgg153
  z44 := Tryz.sizeOf153
  v44 := Tryz.zeroValue153
  t46 := Tryz.underlying155
  a46 := Tryz.isAgg155
  z46 := Tryz.sizeOf155
  v46 := Tryz.zeroValue155
  t53 := Tryz.underlying158
  a53 := Tryz.isAgg158
  z53 := Tryz.sizeOf158
  v53 := Tryz.zeroValue158
  t57 := Tryz.underlying162
  a57 := Tryz.isAgg162
  z57 := Tryz.sizeOf162
  v57 := Tryz.zeroValue162
  t63 := Tryz.underlying164
  a63 := Tryz.isAgg164
  z63 := Tryz.sizeOf164
  v63 := Tryz.zeroValue164
  t64 := Tryz.underlying51
  a64 := Tryz.isAgg51
  z64 := Tryz.sizeOf51
  v64 := Tryz.zeroValue51 }
end Go.Proofs
namespace Go.Proofs.YtkolalhekgmmdaaGreat
open Go.RowKit Go.Maps Go.Sort Go.Shelf Go.SX
set_option maxRecDepth 100000
set_option maxHeartbeats 4000000
set_option linter.unusedVariables false
set_option linter.unusedSimpArgs false
theorem Tryz.sorts24 (m : Nat) : AnyZ.SortsIn Tryz.prog Tryz.sorted24_ren Fence.wide m :=
  ⟨fun blk off cap ss W hH hblk hsz => callsIn_wide.2 (AnyM.slices_Sort_string Tryz.sort51 blk off cap ss W hH hblk hsz),
   fun p cap W => callsIn_wide.2 (AnyM.slices_Sort_string_none Tryz.sort51 p cap W)⟩
theorem srt_25 {α : Type} {g : α → AV} {A : List (ByteArray × α)} {mg : MG} {bb mb : Nat} (hs : ∀ p ∈ A, p.1.size ≤ maxLen) (hn : (A.map Prod.fst).Nodup) (hl : A.length ≤ 1000000) :
    Tri Tryz.prog 24 [.fn 52 [.ref bb 0]] [.box bb (.map mb), .map mb (kvW g A) mg] (D (strs (sortL (A.map Prod.fst))) [.box bb (.map mb), .map mb (kvW g A) mg]) :=
  sorted_keys Tryz.sorted24 { Tryz.keys25 with } Tryz.sorts24 (enters_of Tryz.func51 (by kernel_rfl) rfl) (enters_of Tryz.func52 (by kernel_rfl) rfl) ⟨_, Tryz.func24, rfl, rfl⟩ hs hn hl
theorem code_Keys (mb : Nat) : Tri Tryz.prog 25 [.map mb] [] (fun x h => ∃ b, x = .ret (.fn 52 [.ref b 0]) ∧ h = [.box b (.map mb)]) := by
  refine Tri.enter 4 Tryz.func25 rfl rfl rfl rfl fun Fr w0 => ?_
  repeat' (first | (refine AW.r 0 ?_; refine AL.box rfl rfl rfl fun b => ?_; refine xN 1 ?_) | refine AW.re 1 2 ?_ | refine AW.jt ?_ | refine AW.jf ?_ | refine AW.jj (fun hb => ?_) (fun hb => ?_) | refine AW.go ?_ | fail)
  exact AW.retv rfl ⟨b, rfl, rfl⟩
def pickS (S : List (ByteArray × Int)) (ks : List ByteArray) : List GSym := ks.map fun n => ⟨n, (lookA S n).getD 0⟩
def symsC (c : GCode) : List GSym := pickS (checkedP c).S (sortL ((checkedP c).S.map Prod.fst))
theorem code_Symbols0 (c : GCode) (hc : c.Ok) (hb : (checkedP c).bad = true) : Tri Tryz.prog 10 [c.av] [] (D (.sl []) []) := by
  have h := code_checked c hc
  refine Tri.enter 37 Tryz.func10 rfl rfl rfl rfl fun Fr w0 => ?_
  repeat' (first | (refine AW.r 0 ?_; (first | refine AL.d (AOp.box_ro rfl rfl) ?_ | refine AL.d (AOp.box_ro rfl rfl) ?_) <;> refine AL.es 1 ?_ <;> refine AL.nil ?_) | refine AW.jt ?_ | refine AW.jf ?_ | refine AW.jj (fun hb => ?_) (fun hb => ?_) | refine AW.go ?_ | fail)
  repeat' (first | (refine AW.r 1 ?_; (first | refine AL.d AOp.la ?_ | refine AL.d (AOp.lw 0) ?_) <;> (refine AL.callQ rfl rfl h rfl ?_ ?_; rotate_left; rintro _ _ ⟨_, _, _, e, _⟩; cases e; rintro _ _ ⟨b, ba, bs, e, rfl⟩; injection e with e; subst e) <;> refine AL.es 1 ?_ <;> refine AL.nil ?_) | (refine xS 2 2 ?_; (first | refine AL.d AOp.fa ?_ | refine AL.d (AOp.fr 7) ?_) <;> (first | refine AL.d AOp.la ?_ | refine AL.d (AOp.ll 0) ?_) <;> refine AL.nil ?_) | refine AW.re 3 1 ?_ | refine AW.jt ?_ | refine AW.jf ?_ | refine AW.jj (fun hb => ?_) (fun hb => ?_) | refine AW.go ?_ | fail)
  · exact AW.ret_drop rfl (List.nil_sublist _) ⟨rfl, rfl⟩
  · simp_all
theorem code_Symbols (c : GCode) (hc : c.Ok) (hb : (checkedP c).bad = false) (hs : ∀ p ∈ (checkedP c).S, p.1.size ≤ maxLen) (hn : ((checkedP c).S.map Prod.fst).Nodup) (hl : (checkedP c).S.length ≤ 100000) : Tri Tryz.prog 10 [c.av] [] (D (.sl ((symsC c).map GSym.av)) []) := by
  have h := code_checked c hc
  refine Tri.enter 37 Tryz.func10 rfl rfl rfl rfl fun Fr w0 => ?_
  repeat' (first | (refine AW.r 0 ?_; (first | refine AL.d (AOp.box_ro rfl rfl) ?_ | refine AL.d (AOp.box_ro rfl rfl) ?_) <;> refine AL.es 1 ?_ <;> refine AL.nil ?_) | refine AW.jt ?_ | refine AW.jf ?_ | refine AW.jj (fun hb => ?_) (fun hb => ?_) | refine AW.go ?_ | fail)
  repeat' (first | (refine AW.r 1 ?_; (first | refine AL.d AOp.la ?_ | refine AL.d (AOp.lw 0) ?_) <;> (refine AL.callQ rfl rfl h rfl ?_ ?_; rotate_left; rintro _ _ ⟨_, _, _, e, _⟩; cases e; rintro _ _ ⟨b, ba, bs, e, rfl⟩; injection e with e; subst e) <;> refine AL.es 1 ?_ <;> refine AL.nil ?_) | (refine xS 2 2 ?_; (first | refine AL.d AOp.fa ?_ | refine AL.d (AOp.fr 7) ?_) <;> (first | refine AL.d AOp.la ?_ | refine AL.d (AOp.ll 0) ?_) <;> refine AL.nil ?_) | refine AW.jt ?_ | refine AW.jf ?_ | refine AW.jj (fun hb => ?_) (fun hb => ?_) | refine AW.go ?_ | fail)
  · simp_all
  have hk := code_Keys bs
  have hlS : (sortL ((checkedP c).S.map Prod.fst)).length = (checkedP c).S.length := by simp [sortL]
  generalize (arrsP c.Arrays (chk0 c) { bs := [], clk := 0 }).snd = gA at *
  unfold symsC
  generalize hO : sortL ((checkedP c).S.map Prod.fst) = O at *
  generalize hST : checkedP c = st at *
  obtain ⟨sc, sA, sS, sg, cnt, bad⟩ := st
  change sortL (sS.map Prod.fst) = O at hO
  change O.length = sS.length at hlS
  change sS.length ≤ 100000 at hl
  change (sS.map Prod.fst).Nodup at hn
  change ∀ p ∈ sS, p.1.size ≤ maxLen at hs
  repeat' (first | (refine AW.r 4 ?_; (first | refine AL.d AOp.assign_nil ?_ | refine AL.e ?_) <;> refine AL.nil ?_) | refine AW.jt ?_ | refine AW.jf ?_ | refine AW.jj (fun hb => ?_) (fun hb => ?_) | refine AW.go ?_ | fail)
  have hsrt := fun nb => srt_25 (g := iav) (A := sS) (mg := sg) (bb := nb) (mb := bs) hs hn (by omega)
  repeat' (first | (refine xS 5 2 ?_; (first | refine AL.d AOp.fa ?_ | refine AL.d (AOp.fr 5) ?_) <;> (first | refine AL.d AOp.la ?_ | refine AL.d (AOp.ll 0) ?_ | refine AL.d (AOp.ll 1) ?_ | refine AL.d (AOp.ll 2) ?_) <;> (first | ((refine AL.callQ rfl rfl (Tri.frame [false, false, false] hk) rfl ?_ ?_; rotate_left; rintro _ _ ⟨_, ⟨_, e, _⟩, _⟩; cases e; rintro _ _ ⟨_, ⟨nb, e, rfl⟩, rfl⟩; injection e with e; subst e)) | refine AL.d (AOp.call rfl rfl (Tri.frameD [true, false, false, true] (hsrt _))) ?_) <;> (first | ((refine AL.callQ rfl rfl (Tri.frame [false, false, false] hk) rfl ?_ ?_; rotate_left; rintro _ _ ⟨_, ⟨_, e, _⟩, _⟩; cases e; rintro _ _ ⟨_, ⟨nb, e, rfl⟩, rfl⟩; injection e with e; subst e)) | refine AL.d (AOp.call rfl rfl (Tri.frameD [true, false, false, true] (hsrt _))) ?_) <;> refine AL.es 2 ?_ <;> refine AL.nil ?_) | refine AW.jt ?_ | refine AW.jf ?_ | refine AW.jj (fun hb => ?_) (fun hb => ?_) | refine AW.go ?_ | fail)
  rw [hO]
  refine AW.own_nil 2 ?_
  refine AW.prune [3, 4, 18, 19, 20] (AW.loop (fun m af h => ∃ (i : Nat) (out : List GSym) (tb : Option Nat) (tc : Nat), i ≤ O.length ∧ m = O.length - i ∧ af = [(3, .ref b 0), (4, .slt (out.map GSym.av) tb tc), (18, strs O), (19, .int .i64 (O.map AV.str).length), (20, .int .i64 i)] ∧ h = [.tail tb (out.map GSym.av).length tc 2, .box nb (.map bs), .map bs (kvW iav sS) sg, .box b (.st [sc.av, .map ba, .map bs, .int .i64 cnt, .bool bad]), .map ba (kvW iav sA) gA] ∧ out = pickS sS (O.take i)) O.length ⟨0, [], none, 0, Nat.zero_le _, rfl, rfl, rfl, rfl⟩ ?_)
  rintro m af h ⟨i, out, tb, tc, hi, rfl, rfl, rfl, he⟩
  refine AW.seq ?_
  by_cases hlt : i < O.length
  · obtain ⟨x, hx⟩ := get_lt hlt
    have hx' : (O.map AV.str)[((i : Nat) : Int).toNat]? = some (.str x) := map_get hx
    have htk : O.take (i + 1) = O.take i ++ [x] := by rw [List.take_add_one, hx]; rfl
    have hlo : out.length = i := by rw [he]; simp [pickS]; omega
    repeat' (first | refine AW.re 6 1 ?_ | refine AW.jt ?_ | refine AW.jf ?_ | refine AW.jj (fun hb => ?_) (fun hb => ?_) | refine AW.go ?_ | fail)
    all_goals try (exfalso; simp only [dT, dF, lM] at *; omega)
    repeat' (first | (refine AW.r 7 ?_; refine AL.d (iX hx') ?_; (first | refine AL.d AOp.la ?_ | refine AL.d (AOp.ll 0) ?_ | refine AL.d (AOp.ll 1) ?_ | refine AL.d (AOp.ll 2) ?_ | refine AL.d (AOp.ll 3) ?_ | refine AL.d (AOp.ll 4) ?_) <;> refine AL.es 1 ?_ <;> refine AL.nil ?_) | (refine xS 8 4 ?_; (first | refine AL.d AOp.fa ?_ | refine AL.d (AOp.fr 5) ?_) <;> (first | refine AL.d AOp.la ?_ | refine AL.d (AOp.ll 0) ?_ | refine AL.d (AOp.ll 1) ?_ | refine AL.d (AOp.ll 2) ?_ | refine AL.d (AOp.ll 3) ?_ | refine AL.d (AOp.ll 4) ?_) <;> refine AL.es 1 ?_ <;> refine AL.d (AOp.lookS_int1 2 3 rfl rfl rfl (by kernel_rfl) (by kernel_rfl)) ?_ <;> refine AL.d (AOp.build (pl := [(0, 1), (1, 1)]) (z := .st [.str ⟨#[]⟩, .int .i64 0]) (by kernel_rfl) rfl rfl rfl) ?_ <;> refine AL.d (AOp.lit (e := 48) (sz := 2) (by kernel_rfl) rfl rfl rfl (P_one rfl) (by decide)) ?_ <;> refine AL.append (i := 0) (e := 48) (sz := 2) (bytes := 24) rfl rfl rfl rfl (by kernel_rfl) (by kernel_rfl) (by repeat' (first | exact P_nil | refine P_app ?_ ?_ | refine P_take ?_ | refine P_drop ?_ | exact P_map fun _ => rfl | exact P_one rfl | exact P_rep rfl)) (by repeat' (first | exact P_nil | refine P_app ?_ ?_ | refine P_take ?_ | refine P_drop ?_ | exact P_map fun _ => rfl | exact P_one rfl | exact P_rep rfl)) (ok_all (by repeat' (first | exact P_nil | refine P_app ?_ ?_ | refine P_take ?_ | refine P_drop ?_ | exact P_map fun _ => rfl | exact P_one rfl | exact P_rep rfl))) (by (try simp only [lA, lM, List.length_take, List.length_drop, List.length_cons, List.length_nil, List.length_replicate]); omega) (by (try simp only [lA, lM, List.length_take, List.length_drop, List.length_cons, List.length_nil, List.length_replicate]); omega) rfl fun b' c' => ?_ <;> refine AL.es 1 ?_ <;> refine AL.nil ?_) | (refine AW.r 9 ?_; refine AL.d AOp.ad ?_; refine xN 1 ?_) | refine AW.jt ?_ | refine AW.jf ?_ | refine AW.jj (fun hb => ?_) (fun hb => ?_) | refine AW.go ?_ | fail)
    have hmm : (out ++ [(⟨x, (lookA sS x).getD 0⟩ : GSym)]).map GSym.av = out.map GSym.av ++ [AV.st [.str x, .int .i64 ((lookA sS x).getD 0)]] := by simp [GSym.av]
    refine AW.again_keep (O.length - (i + 1)) [3, 4, 18, 19, 20] (by omega) ⟨i + 1, out ++ [(⟨x, (lookA sS x).getD 0⟩ : GSym)], b', c', hlt, rfl, ?_, ?_, ?_⟩
    · rw [hmm]; rfl
    · rw [hmm]; rfl
    · rw [he, htk]; simp [pickS]
  · rw [List.take_of_length_le (by omega)] at he
    subst he
    repeat' (first | refine AW.re 6 1 ?_ | refine AW.jt ?_ | refine AW.jf ?_ | refine AW.jj (fun hb => ?_) (fun hb => ?_) | refine AW.go ?_ | fail)
    all_goals try (exfalso; simp only [dT, dF, lM] at *; omega)
    repeat' (first | refine AW.re 10 2 ?_ | refine AW.jt ?_ | refine AW.jf ?_ | refine AW.jj (fun hb => ?_) (fun hb => ?_) | refine AW.go ?_ | fail)
    refine AW.as_sl 2 rfl ?_
    exact AW.ret_drop rfl (List.nil_sublist _) ⟨rfl, rfl⟩
theorem emp_ok : strOk ⟨#[]⟩ := by show (0 : Nat) ≤ _; omega
theorem nameE_ok : strOk nameE := by show (1 : Nat) ≤ _; omega
theorem len0 {α : Type} {n : Nat} {bd : α → Prop} : lenOk n bd [] := ⟨by simp, by simp⟩
theorem len1 {α : Type} {n : Nat} {bd : α → Prop} {x : α} (hn : n ≤ 1000) (h : bd x) : lenOk n bd [x] := ⟨by simp; omega, by simpa using h⟩
theorem len2 {α : Type} {n : Nat} {bd : α → Prop} {x y : α} (hn : n ≤ 1000) (h : bd x) (h' : bd y) : lenOk n bd [x, y] := ⟨by simp; omega, by simpa using ⟨h, h'⟩⟩
theorem noLit_ok : noLit.Ok := ⟨rfl, emp_ok, len0⟩
theorem edgesC_ok : edgesC.Ok := by
  have s0 : GStmt.Ok ⟨0, 1, 0, 0, 0, ⟨#[]⟩, ⟨#[]⟩, ⟨0, false, nameE, [0, 1]⟩, [], [], []⟩ := .mk ⟨rfl, rfl, rfl, rfl, rfl, emp_ok, emp_ok, ⟨rfl, nameE_ok, len2 (by omega) rfl rfl⟩, len0⟩ (by simp) (by simp) (by simp) (by simp)
  have s1 : GStmt.Ok ⟨3, 0, 1, 0, 0, ⟨#[]⟩, ⟨#[]⟩, noLit, [], [], []⟩ := .mk ⟨rfl, rfl, rfl, rfl, rfl, emp_ok, emp_ok, noLit_ok, len0⟩ (by simp) (by simp) (by simp) (by simp)
  have s2 : GStmt.Ok ⟨7, 0, 0, 1, 0, ⟨#[]⟩, ⟨#[]⟩, noLit, [], [⟨0, 1, 0, 0, 0, ⟨#[]⟩, ⟨#[]⟩, ⟨0, false, nameE, [0, 1]⟩, [], [], []⟩, ⟨3, 0, 1, 0, 0, ⟨#[]⟩, ⟨#[]⟩, noLit, [], [], []⟩], []⟩ :=
    .mk ⟨rfl, rfl, rfl, rfl, rfl, emp_ok, emp_ok, noLit_ok, len0⟩ (by simp) (by intro x h; simp only [List.mem_cons, List.not_mem_nil, or_false] at h; rcases h with rfl | rfl; exact s0; exact s1) (by simp) (by simp)
  refine ⟨rfl, rfl, len0, len1 (by omega) ?_⟩
  exact .mk ⟨rfl, rfl, rfl, rfl, rfl, emp_ok, emp_ok, noLit_ok, len0⟩ (by simp) (by intro x h; simp only [List.mem_cons, List.not_mem_nil, or_false] at h; subst h; exact s2) (by simp) (by simp)
theorem edgesS_ok : edgesS.Ok := ⟨rfl, len1 (by omega) ⟨nameE_ok, rfl, len1 (by omega) (len2 (by omega) rfl rfl)⟩⟩
theorem law_alive : Tri Tryz.prog 5 [] [] (D (.bool true) []) := by
  obtain ⟨b, n, g, e, hR, hT⟩ := code_RunD edgesC edgesS [] 100 edgesC_ok edgesS_ok (by simp)
  obtain ⟨rfl, rfl, rfl⟩ := edges_run hR
  have hE := law_edges
  have hM := code_Time edgesC edgesC_ok (by decide)
  rw [edges_time] at hM
  have hQ := ref_Equal [1, 1, 2] [1, 1, 2] (by simp) (by simp)
  refine Tri.enter 44 Tryz.func5 rfl rfl rfl rfl fun Fr w0 => ?_
  repeat' (first | refine AW.re 0 1 ?_ | refine AW.jt ?_ | refine AW.jf ?_ | refine AW.jj (fun hb => ?_) (fun hb => ?_) | refine AW.go ?_ | fail)
  repeat' (first | (refine AW.r 1 ?_; (first | refine AL.d (AOp.lit (t := 32) (e := 3) (sz := 1) (by kernel_rfl) rfl rfl rfl (by simp [AV.size, ofConst]) (by decide)) ?_ | refine AL.d (AOp.lit (t := 33) (e := 32) (sz := 1) (by kernel_rfl) rfl rfl rfl (by simp [AV.size, ofConst]) (by decide)) ?_ | refine AL.d (AOp.lit (t := 36) (e := 35) (sz := 3) (by kernel_rfl) rfl rfl rfl (by simp [AV.size, AV.sizes, ofConst]) (by decide)) ?_) <;> (first | refine AL.d (AOp.lit (t := 32) (e := 3) (sz := 1) (by kernel_rfl) rfl rfl rfl (by simp [AV.size, ofConst]) (by decide)) ?_ | refine AL.d (AOp.lit (t := 33) (e := 32) (sz := 1) (by kernel_rfl) rfl rfl rfl (by simp [AV.size, ofConst]) (by decide)) ?_ | refine AL.d (AOp.lit (t := 36) (e := 35) (sz := 3) (by kernel_rfl) rfl rfl rfl (by simp [AV.size, AV.sizes, ofConst]) (by decide)) ?_) <;> refine AL.d (AOp.build (pl := [(0, 1), (1, 1), (2, 1)]) (z := .st [.str ⟨#[]⟩, .int .i64 0, .sl []]) (by kernel_rfl) rfl rfl rfl) ?_ <;> (first | refine AL.d (AOp.lit (t := 32) (e := 3) (sz := 1) (by kernel_rfl) rfl rfl rfl (by simp [AV.size, ofConst]) (by decide)) ?_ | refine AL.d (AOp.lit (t := 33) (e := 32) (sz := 1) (by kernel_rfl) rfl rfl rfl (by simp [AV.size, ofConst]) (by decide)) ?_ | refine AL.d (AOp.lit (t := 36) (e := 35) (sz := 3) (by kernel_rfl) rfl rfl rfl (by simp [AV.size, AV.sizes, ofConst]) (by decide)) ?_) <;> refine AL.d (AOp.build (pl := [(0, 1), (1, 1)]) (z := .st [.int .i64 0, .sl []]) (by kernel_rfl) rfl rfl rfl) ?_ <;> refine AL.alloc_store (by kernel_rfl) rfl rfl rfl rfl ?_ <;> refine AL.nil ?_) | refine AW.jt ?_ | refine AW.jf ?_ | refine AW.jj (fun hb => ?_) (fun hb => ?_) | refine AW.go ?_ | fail)
  repeat' (first | (refine AW.dq 2 ?_; (first | refine AQ.p rfl (AOp.call rfl rfl hE) ?_ | refine AQ.p rfl (AOp.call rfl rfl hT) ?_ | refine AQ.p rfl (AOp.call rfl rfl hM) ?_) <;> refine AQ.es 1 ?_ <;> (first | refine AQ.p rfl (AOp.call rfl rfl hE) ?_ | refine AQ.p rfl (AOp.call rfl rfl hT) ?_ | refine AQ.p rfl (AOp.call rfl rfl hM) ?_) <;> refine AQ.es 9 ?_ <;> refine AQ.nil ?_) | (refine AW.r 3 ?_; (first | refine AL.d (AOp.call rfl rfl hE) ?_ | refine AL.d (AOp.call rfl rfl hT) ?_ | refine AL.d (AOp.call rfl rfl hM) ?_) <;> (first | refine AL.d (AOp.call rfl rfl hE) ?_ | refine AL.d (AOp.call rfl rfl hT) ?_ | refine AL.d (AOp.call rfl rfl hM) ?_) <;> refine AL.es 5 ?_ <;> refine AL.nil ?_) | refine AW.jt ?_ | refine AW.jf ?_ | refine AW.jj (fun hb => ?_) (fun hb => ?_) | refine AW.go ?_ | fail)
  repeat' (first | (refine xS 4 3 ?_; (first | refine AL.es 4 ?_ | (refine AL.gx (fun hb => ?_) (fun hb => ?_) <;> refine AL.es 4 ?_)) <;> (first | refine AL.es 3 ?_ | (refine AL.gx (fun hb => ?_) (fun hb => ?_) <;> refine AL.es 3 ?_)) <;> (first | refine AL.es 4 ?_ | (refine AL.gx (fun hb => ?_) (fun hb => ?_) <;> refine AL.es 4 ?_)) <;> (first | refine AL.es 1 ?_ | (refine AL.gx (fun hb => ?_) (fun hb => ?_) <;> refine AL.es 1 ?_)) <;> (first | (refine AL.gd ?_; refine AL.d (AOp.lit (t := 32) (e := 3) (sz := 1) (by kernel_rfl) rfl rfl rfl (by simp [AV.size, ofConst]) (by decide)) ?_) | refine AL.gs ?_ | refine AL.gu ?_) <;> (first | (refine AL.gd ?_; refine AL.d (AOp.call rfl rfl hQ) ?_) | refine AL.gs ?_ | refine AL.gu ?_) <;> refine AL.es 2 ?_ <;> refine AL.nil ?_) | refine AW.jt ?_ | refine AW.jf ?_ | refine AW.jj (fun hb => ?_) (fun hb => ?_) | refine AW.go ?_ | fail)
  exact AW.retv rfl ⟨by simp, rfl⟩
def ltN (a b : ByteArray) : Prop := a.data.toList < b.data.toList
theorem less_ltN {a b : ByteArray} : lessB a b = true ↔ ltN a b := by
  unfold lessB ltN
  rw [bytesLess_eq, dT, ByteArray.toList_eq, ByteArray.toList_eq]
theorem ltN_trans {a b c : ByteArray} (h : ltN a b) (k : ltN b c) : ltN a c := List.lt_trans h k
theorem ltN_irr (a : ByteArray) : ¬ ltN a a := List.lt_irrefl _
theorem ba_ext {a b : ByteArray} (h : a.data.toList = b.data.toList) : a = b := by
  obtain ⟨a⟩ := a; obtain ⟨b⟩ := b; congr; exact Array.ext' h
theorem ltN_total {a b : ByteArray} (h : ¬ ltN a b) (e : a ≠ b) : ltN b a := by
  unfold ltN at *
  rcases List.le_iff_lt_or_eq.1 (List.not_lt.1 h) with h | h
  · exact h
  · exact absurd (ba_ext h).symm e
theorem risP_sorted : ∀ (l : List ByteArray) (s : ByteArray), l.Pairwise ltN → (risP l s).Pairwise ltN
  | [], s, _ => by simp [risP]
  | x :: l, s, h => by
    obtain ⟨h1, h2⟩ := List.pairwise_cons.1 h
    rw [risP]
    by_cases hl : lessB x s = true
    · rw [if_pos hl]
      refine List.pairwise_cons.2 ⟨fun y hy => ?_, risP_sorted l s h2⟩
      rcases (risP_mem l s y).1 hy with rfl | hy
      · exact less_ltN.1 hl
      · exact h1 y hy
    · rw [if_neg hl]
      by_cases e : x = s
      · rw [if_pos e]; exact h
      · rw [if_neg e]
        have hsx : ltN s x := ltN_total (fun k => hl (less_ltN.2 k)) e
        refine List.pairwise_cons.2 ⟨fun y hy => ?_, h⟩
        rcases List.mem_cons.1 hy with rfl | hy
        · exact hsx
        · exact ltN_trans hsx (h1 y hy)
theorem ordGo_sorted : ∀ (l : List GSym) (o : List ByteArray), o.Pairwise ltN → (ordGo l o).Pairwise ltN
  | [], o, h => by simpa [ordGo] using h
  | a :: l, o, h => by
    rw [ordGo]
    refine ordGo_sorted l _ ?_
    split
    · exact h
    · exact risP_sorted _ _ h
theorem nodup_of_lt {l : List ByteArray} (h : l.Pairwise ltN) : l.Nodup := List.Pairwise.imp (fun {a b} (k : ltN a b) => ((fun e => ltN_irr b (by rw [e] at k; exact k)) : a ≠ b)) h
theorem lt_ext {l l' : List ByteArray} (h : l.Pairwise ltN) (h' : l'.Pairwise ltN) (hm : ∀ x, x ∈ l ↔ x ∈ l') : l = l' :=
  List.Perm.eq_of_pairwise (le := ltN) (fun a b _ _ h1 h2 => (ltN_irr a (ltN_trans h1 h2)).elim) h h' ((List.perm_ext_iff_of_nodup (nodup_of_lt h) (nodup_of_lt h')).2 hm)
theorem sortL_mem {ks : List ByteArray} {x : ByteArray} : x ∈ sortL ks ↔ x ∈ ks := by
  unfold sortL
  rw [List.mem_map]
  constructor
  · rintro ⟨l, hl, rfl⟩
    rw [(List.mergeSort_perm _ _).mem_iff, List.mem_map] at hl
    obtain ⟨k, hk, rfl⟩ := hl
    exact hk
  · intro h
    exact ⟨keyL x, (List.mergeSort_perm _ _).mem_iff.2 (List.mem_map_of_mem h), rfl⟩
theorem sortL_sorted {ks : List ByteArray} (h : ks.Nodup) : (sortL ks).Pairwise ltN := by
  unfold sortL
  rw [List.pairwise_map]
  have tr : ∀ a b c : List UInt8, decide (a ≤ b) = true → decide (b ≤ c) = true → decide (a ≤ c) = true := fun a b c h1 h2 => by simp only [dT] at *; exact List.le_trans h1 h2
  have to : ∀ a b : List UInt8, (decide (a ≤ b) || decide (b ≤ a)) = true := fun a b => by simp only [Bool.or_eq_true, dT]; exact List.le_total a b
  have h1 := List.pairwise_mergeSort tr to (ks.map keyL)
  have hn : (ks.map keyL).Nodup := List.pairwise_map.2 (h.imp fun {a b} k e => k (ba_ext e))
  have h2 : ((ks.map keyL).mergeSort fun x y => decide (x ≤ y)).Nodup := ((List.mergeSort_perm _ _).nodup_iff).2 hn
  refine (List.pairwise_and_iff.2 ⟨h1, h2⟩).imp fun {a b} k => ?_
  obtain ⟨k1, k2⟩ := k
  rw [dT] at k1
  rcases List.le_iff_lt_or_eq.1 k1 with h | h
  · exact h
  · exact absurd h k2
theorem nodup_le' {α : Type} [DecidableEq α] : ∀ (a b : List α), a.Nodup → (∀ x ∈ a, x ∈ b) → a.length ≤ b.length
  | [], b, _, _ => Nat.zero_le _
  | x :: a, b, h, k => by
    have hn := List.nodup_cons.1 h
    have hx := k x (List.mem_cons_self ..)
    have := nodup_le' a (b.erase x) hn.2 fun y hy => (List.mem_erase_of_ne (fun e : y = x => hn.1 (e ▸ hy))).2 (k y (List.mem_cons_of_mem _ hy))
    rw [List.length_erase_of_mem hx] at this
    have hp := List.length_pos_of_mem hx
    rw [List.length_cons]; omega
theorem key_look {α : Type} {x : ByteArray} : ∀ {S : List (ByteArray × α)}, x ∈ S.map Prod.fst ↔ (lookA S x).isSome = true
  | [] => by simp [lookA]
  | p :: S => by
    obtain ⟨k, v⟩ := p
    rw [List.map_cons, List.mem_cons, key_look (S := S), lookA]
    by_cases h : x = k
    · simp [h]
    · simp [h]
theorem S_look {c : GCode} (hb : (checkedP c).bad = false) (k : ByteArray) : lookA (checkedP c).S k = arOf (symsT c) k := checked_S hb k
theorem S_mem {c : GCode} (hb : (checkedP c).bad = false) (x : ByteArray) : x ∈ (checkedP c).S.map Prod.fst ↔ ∃ a ∈ symsT c, a.Name = x := by
  rw [key_look, S_look hb]
  constructor
  · intro h
    obtain ⟨n, hn⟩ := Option.isSome_iff_exists.1 h
    obtain ⟨a, ha, e, _⟩ := arOf_some hn
    exact ⟨a, ha, e⟩
  · rintro ⟨a, ha, rfl⟩
    rw [show arOf (symsT c) a.Name = some a.Arity from arOf_mem (checked_cons hb).1 ha]; rfl
theorem symsT_ar {c : GCode} (hb : (checkedP c).bad = false) {a : GSym} (ha : a ∈ symsT c) : arOf (symsT c) a.Name = some a.Arity := arOf_mem (checked_cons hb).1 ha
theorem S_size {c : GCode} (hb : (checkedP c).bad = false) : ∀ p ∈ (checkedP c).S, p.1.size ≤ maxLen := fun p hp => by
  obtain ⟨a, ha, e⟩ := (S_mem hb p.1).1 (List.mem_map_of_mem hp)
  have := (symsT_good hb a ha).2.2
  unfold nameB at this
  simp only [bA, dT] at this
  rw [← e]
  have h2 := this.1.1.1.2
  simp only [maxLen]; omega
theorem S_len {c : GCode} (hb : (checkedP c).bad = false) : (checkedP c).S.length ≤ 100000 := by
  have h1 := nodup_le' _ ((symsT c).map (·.Name)) (chk_ok hb).keys fun x hx => by
    obtain ⟨a, ha, e⟩ := (S_mem hb x).1 hx
    exact e ▸ List.mem_map_of_mem ha
  have h2 := (symsT_ok hb).1
  rw [lM, lM] at h1
  omega
theorem syms_eq {c : GCode} (hb : (checkedP c).bad = false) : symsC c = symsP (symsT c) := by
  have hO : ordGo (atomsP (symsT c)) [] = sortL ((checkedP c).S.map Prod.fst) := by
    refine lt_ext (ordGo_sorted _ _ .nil) (sortL_sorted (chk_ok hb).keys) fun x => ?_
    rw [sortL_mem, S_mem hb, ordGo_mem]
    constructor
    · rintro (h | ⟨h1, a, h2, h3⟩)
      · cases h
      · rw [atomsP] at h2
        rcases List.mem_cons.1 h2 with rfl | h2
        · exact absurd h3.symm h1
        · exact ⟨a, h2, h3⟩
    · rintro ⟨a, ha, rfl⟩
      exact .inr ⟨name_ne (symsT_good hb a ha), a, by simp [atomsP, ha], rfl⟩
  unfold symsC pickS symsP
  rw [hO]
  refine List.map_congr_left fun x hx => ?_
  obtain ⟨a, ha, e⟩ := (S_mem hb x).1 (sortL_mem.1 hx)
  subst e
  rw [S_look hb, atomsP, show (⟨empS, 0⟩ : GSym) :: symsT c = [⟨empS, 0⟩] ++ symsT c from rfl, arOf_append, arOf_one, if_neg (fun e => name_ne (symsT_good hb a ha) e.symm)]
  simp only [symsT_ar hb ha]
  rfl
theorem law_Same (l : List GSym) (hl : l.length ≤ 1000000) : Tri Tryz.prog 9 [.sl (l.map GSym.av), .sl (l.map GSym.av)] [] (D (.bool true) []) := by
  refine Tri.enter 26 Tryz.func9 rfl rfl rfl rfl fun Fr w0 => ?_
  repeat' (first | refine AW.re 0 1 ?_ | refine AW.re 1 5 ?_ | refine AW.jt ?_ | refine AW.jf ?_ | refine AW.jj (fun hb => ?_) (fun hb => ?_) | refine AW.go ?_ | fail)
  all_goals try (exfalso; simp at hb; done)
  repeat' (first | refine AW.re 3 1 ?_ | refine AW.jt ?_ | refine AW.jf ?_ | refine AW.jj (fun hb => ?_) (fun hb => ?_) | refine AW.go ?_ | fail)
  refine AW.prune [0, 1, 5] (AW.loop (fun mz af h => ∃ (i : Nat), i ≤ l.length ∧ mz = l.length - i ∧ af = [(0, .sl (l.map GSym.av)), (1, .sl (l.map GSym.av)), (5, .int .i64 i)] ∧ h = [] ∧ True) l.length ⟨0, Nat.zero_le _, rfl, rfl, rfl, trivial⟩ ?_)
  rintro mz af h ⟨i, hi, rfl, rfl, rfl, he⟩
  refine AW.seq ?_
  by_cases hlt : i < l.length
  · obtain ⟨x, hx⟩ := get_lt hlt
    obtain ⟨nm, ar⟩ := x
    have hx' : (l.map GSym.av)[((i : Nat) : Int).toNat]? = some (.st [.str nm, .int .i64 ar]) := map_get hx
    repeat' (first | refine AW.re 4 4 ?_ | refine AW.jt ?_ | refine AW.jf ?_ | refine AW.jj (fun hb => ?_) (fun hb => ?_) | refine AW.go ?_ | fail)
    all_goals try (exfalso; simp only [dT, dF, lM] at *; omega)
    repeat' (first | (refine AW.dq 6 ?_; refine AQ.es 2 ?_; refine AQ.p rfl (iX hx') ?_; refine AQ.es 3 ?_; refine AQ.p rfl (iX hx') ?_; refine AQ.es 1 ?_; (first | refine AQ.e ?_ | refine AQ.p rfl (AOp.sym_ne (by kernel_rfl) rfl rfl) ?_) <;> refine AQ.nil ?_) | (refine xS 5 1 ?_; (first | refine AL.d (AOp.sym_ne (by kernel_rfl) rfl rfl) ?_ | refine AL.d AOp.ad ?_) <;> refine AL.es 1 ?_ <;> refine AL.nil ?_) | refine AW.jt ?_ | refine AW.jf ?_ | refine AW.jj (fun hb => ?_) (fun hb => ?_) | refine AW.go ?_ | fail)
    all_goals try (exfalso; simp only [dT, dF, lM] at *; omega)
    all_goals simp only [beq_self_eq_true, Bool.and_self, Bool.not_true, reduceCtorEq] at hb
    all_goals refine AW.again_keep (l.length - (i + 1)) [0, 1, 5] (by omega) ⟨i + 1, hlt, rfl, rfl, rfl, ?_⟩
    all_goals trivial
  · repeat' (first | refine AW.re 4 4 ?_ | refine AW.re 8 1 ?_ | refine AW.jt ?_ | refine AW.jf ?_ | refine AW.jj (fun hb => ?_) (fun hb => ?_) | refine AW.go ?_ | fail)
    all_goals try (exfalso; simp only [dT, dF, lM] at *; omega)
    exact AW.retv rfl ⟨rfl, rfl⟩
theorem law_CodeValid (c : GCode) (hc : c.Ok) : Tri Tryz.prog 3 [c.av] [] (D (.bool true) []) := by
  have hA := law_alive
  have hF := law_Few c hc 22000 (by omega)
  have hV := code_Valid c hc
  cases hf : fewC c 22000 with
  | false =>
    rw [hf] at hF
    refine Tri.enter 27 Tryz.func3 rfl rfl rfl rfl fun Fr w0 => ?_
    repeat' (first | (refine AW.r 0 ?_; (first | refine AL.d (AOp.box_ro rfl rfl) ?_ | refine AL.d (AOp.box_ro rfl rfl) ?_) <;> refine AL.es 1 ?_ <;> refine AL.nil ?_) | (refine xS 1 1 ?_; (first | refine AL.d (AOp.call rfl rfl hF) ?_ | refine AL.d (AOp.call rfl rfl hA) ?_) <;> refine AL.es 1 ?_ <;> refine AL.nil ?_) | (refine AW.r 2 ?_; (first | refine AL.d (AOp.call rfl rfl hF) ?_ | refine AL.d (AOp.call rfl rfl hA) ?_) <;> refine AL.es 1 ?_ <;> refine AL.nil ?_) | refine AW.jt ?_ | refine AW.jf ?_ | refine AW.jj (fun hb => ?_) (fun hb => ?_) | refine AW.go ?_ | fail)
    exact AW.retv rfl ⟨rfl, rfl⟩
  | true =>
    rw [hf] at hF
    have hR := ref_Valid c hc (by have := few_cnt_ (most := 22000) hc hf; omega)
    have hiff := checked_iff c
    cases hb : (checkedP c).bad with
    | true =>
      have hrv : refValid c = false := by rw [hb] at hiff; simpa using hiff.symm
      have hS := code_Symbols0 c hc hb
      have hSm := law_Same [] (by simp)
      rw [hb] at hV
      rw [hrv] at hR
      refine Tri.enter 27 Tryz.func3 rfl rfl rfl rfl fun Fr w0 => ?_
      repeat' (first | (refine AW.r 0 ?_; (first | refine AL.d (AOp.box_ro rfl rfl) ?_ | refine AL.d (AOp.box_ro rfl rfl) ?_) <;> refine AL.es 1 ?_ <;> refine AL.nil ?_) | (refine xS 1 1 ?_; (first | refine AL.d (AOp.call rfl rfl hF) ?_ | refine AL.d (AOp.call rfl rfl hR) ?_ | refine AL.d (AOp.call rfl rfl hV) ?_ | refine AL.d (AOp.call rfl rfl hS) ?_ | refine AL.d (AOp.call rfl rfl hSm) ?_ | refine AL.d (AOp.call rfl rfl hA) ?_) <;> refine AL.es 1 ?_ <;> refine AL.nil ?_) | refine AW.re 3 1 ?_ | (refine xS 4 1 ?_; (first | refine AL.d (AOp.call rfl rfl hF) ?_ | refine AL.d (AOp.call rfl rfl hR) ?_ | refine AL.d (AOp.call rfl rfl hV) ?_ | refine AL.d (AOp.call rfl rfl hS) ?_ | refine AL.d (AOp.call rfl rfl hSm) ?_ | refine AL.d (AOp.call rfl rfl hA) ?_) <;> refine AL.es 1 ?_ <;> refine AL.nil ?_) | refine AW.re 5 1 ?_ | (refine xS 7 1 ?_; (first | refine AL.d (AOp.call rfl rfl hF) ?_ | refine AL.d (AOp.call rfl rfl hR) ?_ | refine AL.d (AOp.call rfl rfl hV) ?_ | refine AL.d (AOp.call rfl rfl hS) ?_ | refine AL.d (AOp.call rfl rfl hSm) ?_ | refine AL.d (AOp.call rfl rfl hA) ?_) <;> refine AL.es 1 ?_ <;> (first | refine AL.e ?_ | refine AL.d AOp.be ?_) <;> refine AL.es 1 ?_ <;> (first | refine AL.es 1 ?_ | (refine AL.gx (fun hb => ?_) (fun hb => ?_) <;> refine AL.es 1 ?_)) <;> (first | (refine AL.gd ?_; (first | refine AL.d (AOp.call rfl rfl hF) ?_ | refine AL.d (AOp.call rfl rfl hR) ?_ | refine AL.d (AOp.call rfl rfl hV) ?_ | refine AL.d (AOp.call rfl rfl hS) ?_ | refine AL.d (AOp.call rfl rfl hSm) ?_ | refine AL.d (AOp.call rfl rfl hA) ?_)) | refine AL.gs ?_ | refine AL.gu ?_) <;> refine AL.es 1 ?_ <;> (first | (refine AL.gd ?_; (first | refine AL.d (AOp.call rfl rfl hF) ?_ | refine AL.d (AOp.call rfl rfl hR) ?_ | refine AL.d (AOp.call rfl rfl hV) ?_ | refine AL.d (AOp.call rfl rfl hS) ?_ | refine AL.d (AOp.call rfl rfl hSm) ?_ | refine AL.d (AOp.call rfl rfl hA) ?_)) | refine AL.gs ?_ | refine AL.gu ?_) <;> refine AL.es 2 ?_ <;> (first | (refine AL.gd ?_; (first | refine AL.d (AOp.call rfl rfl hF) ?_ | refine AL.d (AOp.call rfl rfl hR) ?_ | refine AL.d (AOp.call rfl rfl hV) ?_ | refine AL.d (AOp.call rfl rfl hS) ?_ | refine AL.d (AOp.call rfl rfl hSm) ?_ | refine AL.d (AOp.call rfl rfl hA) ?_)) | refine AL.gs ?_ | refine AL.gu ?_ | (refine AL.gx (fun hb => ?_) (fun hb => ?_) <;> first | (refine AL.gd ?_; (first | refine AL.d (AOp.call rfl rfl hF) ?_ | refine AL.d (AOp.call rfl rfl hR) ?_ | refine AL.d (AOp.call rfl rfl hV) ?_ | refine AL.d (AOp.call rfl rfl hS) ?_ | refine AL.d (AOp.call rfl rfl hSm) ?_ | refine AL.d (AOp.call rfl rfl hA) ?_)) | refine AL.gs ?_)) <;> refine AL.es 2 ?_ <;> refine AL.nil ?_) | refine AW.jt ?_ | refine AW.jf ?_ | refine AW.jj (fun hb => ?_) (fun hb => ?_) | refine AW.go ?_ | fail)
      exact AW.retv rfl ⟨rfl, rfl⟩
    | false =>
      have hrv : refValid c = true := by rw [hb] at hiff; simpa using hiff.symm
      have hS := code_Symbols c hc hb (S_size hb) (chk_ok hb).keys (S_len hb)
      have hRS := ref_Symbols c hc hb
      rw [syms_eq hb] at hS
      have hSm := law_Same (symsP (symsT c)) (by have h1 := ordGo_len (atomsP (symsT c)) []; have h2 := (symsT_ok hb).1; simp [symsP, atomsP] at h1 ⊢; omega)
      rw [hb] at hV
      rw [hrv] at hR
      refine Tri.enter 27 Tryz.func3 rfl rfl rfl rfl fun Fr w0 => ?_
      repeat' (first | (refine AW.r 0 ?_; (first | refine AL.d (AOp.box_ro rfl rfl) ?_ | refine AL.d (AOp.box_ro rfl rfl) ?_) <;> refine AL.es 1 ?_ <;> refine AL.nil ?_) | (refine xS 1 1 ?_; (first | refine AL.d (AOp.call rfl rfl hF) ?_ | refine AL.d (AOp.call rfl rfl hR) ?_ | refine AL.d (AOp.call rfl rfl hV) ?_ | refine AL.d (AOp.call rfl rfl hS) ?_ | refine AL.d (AOp.call rfl rfl hSm) ?_ | refine AL.d (AOp.call rfl rfl hRS) ?_ | refine AL.d (AOp.call rfl rfl hA) ?_) <;> refine AL.es 1 ?_ <;> refine AL.nil ?_) | refine AW.re 3 1 ?_ | (refine xS 4 1 ?_; (first | refine AL.d (AOp.call rfl rfl hF) ?_ | refine AL.d (AOp.call rfl rfl hR) ?_ | refine AL.d (AOp.call rfl rfl hV) ?_ | refine AL.d (AOp.call rfl rfl hS) ?_ | refine AL.d (AOp.call rfl rfl hSm) ?_ | refine AL.d (AOp.call rfl rfl hRS) ?_ | refine AL.d (AOp.call rfl rfl hA) ?_) <;> refine AL.es 1 ?_ <;> refine AL.nil ?_) | refine AW.re 5 1 ?_ | (refine xS 6 1 ?_; (first | refine AL.d (AOp.call rfl rfl hF) ?_ | refine AL.d (AOp.call rfl rfl hR) ?_ | refine AL.d (AOp.call rfl rfl hV) ?_ | refine AL.d (AOp.call rfl rfl hS) ?_ | refine AL.d (AOp.call rfl rfl hSm) ?_ | refine AL.d (AOp.call rfl rfl hRS) ?_ | refine AL.d (AOp.call rfl rfl hA) ?_) <;> refine AL.es 1 ?_ <;> refine AL.nil ?_) | (refine xS 7 1 ?_; (first | refine AL.d (AOp.call rfl rfl hF) ?_ | refine AL.d (AOp.call rfl rfl hR) ?_ | refine AL.d (AOp.call rfl rfl hV) ?_ | refine AL.d (AOp.call rfl rfl hS) ?_ | refine AL.d (AOp.call rfl rfl hSm) ?_ | refine AL.d (AOp.call rfl rfl hRS) ?_ | refine AL.d (AOp.call rfl rfl hA) ?_) <;> refine AL.es 1 ?_ <;> (first | refine AL.e ?_ | refine AL.d AOp.be ?_) <;> refine AL.es 1 ?_ <;> (first | refine AL.es 1 ?_ | (refine AL.gx (fun hb => ?_) (fun hb => ?_) <;> refine AL.es 1 ?_)) <;> (first | (refine AL.gd ?_; (first | refine AL.d (AOp.call rfl rfl hF) ?_ | refine AL.d (AOp.call rfl rfl hR) ?_ | refine AL.d (AOp.call rfl rfl hV) ?_ | refine AL.d (AOp.call rfl rfl hS) ?_ | refine AL.d (AOp.call rfl rfl hSm) ?_ | refine AL.d (AOp.call rfl rfl hRS) ?_ | refine AL.d (AOp.call rfl rfl hA) ?_)) | refine AL.gs ?_ | refine AL.gu ?_) <;> refine AL.es 1 ?_ <;> (first | (refine AL.gd ?_; (first | refine AL.d (AOp.call rfl rfl hF) ?_ | refine AL.d (AOp.call rfl rfl hR) ?_ | refine AL.d (AOp.call rfl rfl hV) ?_ | refine AL.d (AOp.call rfl rfl hS) ?_ | refine AL.d (AOp.call rfl rfl hSm) ?_ | refine AL.d (AOp.call rfl rfl hRS) ?_ | refine AL.d (AOp.call rfl rfl hA) ?_)) | refine AL.gs ?_ | refine AL.gu ?_) <;> refine AL.es 2 ?_ <;> (first | (refine AL.gd ?_; (first | refine AL.d (AOp.call rfl rfl hF) ?_ | refine AL.d (AOp.call rfl rfl hR) ?_ | refine AL.d (AOp.call rfl rfl hV) ?_ | refine AL.d (AOp.call rfl rfl hS) ?_ | refine AL.d (AOp.call rfl rfl hSm) ?_ | refine AL.d (AOp.call rfl rfl hRS) ?_ | refine AL.d (AOp.call rfl rfl hA) ?_)) | refine AL.gs ?_ | refine AL.gu ?_ | (refine AL.gx (fun hb => ?_) (fun hb => ?_) <;> first | (refine AL.gd ?_; (first | refine AL.d (AOp.call rfl rfl hF) ?_ | refine AL.d (AOp.call rfl rfl hR) ?_ | refine AL.d (AOp.call rfl rfl hV) ?_ | refine AL.d (AOp.call rfl rfl hS) ?_ | refine AL.d (AOp.call rfl rfl hSm) ?_ | refine AL.d (AOp.call rfl rfl hRS) ?_ | refine AL.d (AOp.call rfl rfl hA) ?_)) | refine AL.gs ?_)) <;> refine AL.es 2 ?_ <;> refine AL.nil ?_) | refine AW.jt ?_ | refine AW.jf ?_ | refine AW.jj (fun hb => ?_) (fun hb => ?_) | refine AW.go ?_ | fail)
      exact AW.retv rfl ⟨rfl, rfl⟩
section
variable {H : Type} {enc : TypeId × Value → H} {w : World}
theorem rdInt (N : Nat) : Rd enc Tryz.prog w N 3 iav iOk := Rd.int' (by kernel_rfl)
theorem rdStr (N : Nat) : Rd enc Tryz.prog w N 9 AV.str strOk := Rd.str' (by kernel_rfl)
theorem rdBool (N : Nat) : Rd enc Tryz.prog w N 4 bav (fun _ => True) := Rd.bool' (by kernel_rfl)
theorem rdInts (N : Nat) : Rd enc Tryz.prog w N 32 ints (lenOk 8 iOk) := Rd.slice' (by kernel_rfl) (rdInt N)
theorem rdSym : ∀ N : Nat, Rd enc Tryz.prog w N 48 GSym.av GSym.Ok := Rd.of_succ fun N =>
  Rd.of_q (RdQ.struct' (by kernel_rfl) (.cons (rdStr N).q (.cons (rdInt N).q (.nil)))) fun v h => by
    obtain ⟨vs, rfl, h⟩ := h
    obtain ⟨_, v1, rfl, ⟨a, rfl, ha⟩, h1⟩ := h.un
    obtain ⟨_, v2, rfl, ⟨b, rfl, hb⟩, h2⟩ := h1.un
    obtain rfl := h2.un0
    exact ⟨⟨a, b⟩, rfl, ha, hb⟩
theorem rdSyms (N : Nat) : Rd enc Tryz.prog w N 22 (fun l => .sl (l.map GSym.av)) (lenOk 24 GSym.Ok) := Rd.slice' (by kernel_rfl) (rdSym N)
theorem rdLit : ∀ N : Nat, Rd enc Tryz.prog w N 75 GLit.av GLit.Ok := Rd.of_succ fun N =>
  Rd.of_q (RdQ.struct' (by kernel_rfl) (.cons (rdInt N).q (.cons (rdBool N).q (.cons (rdStr N).q (.cons (rdInts N).q (.nil)))))) fun v h => by
    obtain ⟨vs, rfl, h⟩ := h
    obtain ⟨_, v1, rfl, ⟨a, rfl, ha⟩, h1⟩ := h.un
    obtain ⟨_, v2, rfl, ⟨b, rfl, hb⟩, h2⟩ := h1.un
    obtain ⟨_, v3, rfl, ⟨c, rfl, hc⟩, h3⟩ := h2.un
    obtain ⟨_, v4, rfl, ⟨d, rfl, hd⟩, h4⟩ := h3.un
    obtain rfl := h4.un0
    exact ⟨⟨a, b, c, d⟩, rfl, ha, hc, hd⟩
theorem rdStmt : ∀ N : Nat, Rd enc Tryz.prog w N 77 GStmt.av GStmt.Ok := Rd.all fun N ih =>
  Rd.of_q (RdQ.struct' (by kernel_rfl) (.cons (rdInt N).q (.cons (rdInt N).q (.cons (rdInt N).q (.cons (rdInt N).q (.cons (rdInt N).q (.cons (rdStr N).q (.cons (rdStr N).q (.cons (rdLit N).q (.cons (rdInts N).q (.cons (Rd.slice' (T := 23) (n := 200) (by kernel_rfl) ih).q (.cons (Rd.slice' (T := 23) (n := 200) (by kernel_rfl) ih).q (.nil))))))))))))) fun v h => by
    obtain ⟨vs, rfl, h⟩ := h
    obtain ⟨_, v1, rfl, ⟨a, rfl, ha⟩, h1⟩ := h.un
    obtain ⟨_, v2, rfl, ⟨b, rfl, hb⟩, h2⟩ := h1.un
    obtain ⟨_, v3, rfl, ⟨c, rfl, hc⟩, h3⟩ := h2.un
    obtain ⟨_, v4, rfl, ⟨d, rfl, hd⟩, h4⟩ := h3.un
    obtain ⟨_, v5, rfl, ⟨e, rfl, he⟩, h5⟩ := h4.un
    obtain ⟨_, v6, rfl, ⟨f, rfl, hf⟩, h6⟩ := h5.un
    obtain ⟨_, v7, rfl, ⟨g, rfl, hg⟩, h7⟩ := h6.un
    obtain ⟨_, v8, rfl, ⟨i, rfl, hi⟩, h8⟩ := h7.un
    obtain ⟨_, v9, rfl, ⟨j, rfl, hj⟩, h9⟩ := h8.un
    obtain ⟨_, v10, rfl, ⟨k, rfl, hk⟩, h10⟩ := h9.un
    obtain ⟨_, v11, rfl, ⟨l, rfl, hl⟩, h11⟩ := h10.un
    obtain rfl := h11.un0
    exact ⟨⟨a, b, c, d, e, f, g, i, j, k, l⟩, by rw [GStmt.av_eq]; rfl, .mk ⟨ha, hb, hc, hd, he, hf, hg, hi, hj⟩ hk.1 hk.2 hl.1 hl.2⟩
theorem rdCode : ∀ N : Nat, Rd enc Tryz.prog w N 25 GCode.av GCode.Ok := Rd.of_succ fun N =>
  Rd.of_q (RdQ.struct' (by kernel_rfl) (.cons (rdInt N).q (.cons (rdInt N).q (.cons (rdSyms N).q (.cons (Rd.slice' (T := 23) (n := 200) (by kernel_rfl) (rdStmt N)).q (.nil)))))) fun v h => by
    obtain ⟨vs, rfl, h⟩ := h
    obtain ⟨_, v1, rfl, ⟨a, rfl, ha⟩, h1⟩ := h.un
    obtain ⟨_, v2, rfl, ⟨b, rfl, hb⟩, h2⟩ := h1.un
    obtain ⟨_, v3, rfl, ⟨c, rfl, hc⟩, h3⟩ := h2.un
    obtain ⟨_, v4, rfl, ⟨d, rfl, hd⟩, h4⟩ := h3.un
    obtain rfl := h4.un0
    exact ⟨⟨a, b, c, d⟩, rfl, ha, hb, hc, hd⟩
end
end Go.Proofs.YtkolalhekgmmdaaGreat
