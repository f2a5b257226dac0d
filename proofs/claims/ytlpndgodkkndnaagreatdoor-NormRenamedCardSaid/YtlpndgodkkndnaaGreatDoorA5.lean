/- Contracts of the functions, part 5. -/
import Derived.Test.YtlpndgodkkndnaaGreatDoorA4
import Derived.Test.YtlpndgodkkndnaaGreatDoorA4
import Derived.Test.YtlpndgodkkndnaaGreatDoorS2
import Derived.Test.YtlpndgodkkndnaaGreatDoorS3
import Derived.Test.YtlpndgodkkndnaaGreatDoorA3
import Derived.Test.YtlpndgodkkndnaaGreatDoorA2
import Derived.Test.YtlpndgodkkndnaaGreatDoorProg
import Derived.Lib.LaidTab
namespace Go.Proofs.YtlpndgodkkndnaaGreatDoor
open Go.RowKit Go.SX
set_option maxRecDepth 100000
set_option maxHeartbeats 4000000
set_option linter.unusedVariables false
set_option linter.unusedSimpArgs false
def qryL (N M : Nat) (f : GFml) (T : TT) (vars : List ByteArray) (m : Nat) : List (List Int) := (tupL N vars.length m).filter fun t => sem N M f T (vars.zip t)
theorem qryL_len (N M : Nat) (f : GFml) (T : TT) (vars : List ByteArray) (m : Nat) : (qryL N M f T vars m).length ≤ m := by
 unfold qryL
 exact Nat.le_trans (List.length_filter_le _ _) (by rw [tupL_len]; omega)
theorem qryL_snoc (N M : Nat) (f : GFml) (T : TT) (vars : List ByteArray) (i : Nat) : qryL N M f T vars (i + 1) = qryL N M f T vars i ++ if sem N M f T (vars.zip (tup N vars.length i)) then [tup N vars.length i] else [] := by
 unfold qryL
 rw [tupL_snoc, List.filter_append]
 congr 1
 cases h : sem N M f T (vars.zip (tup N vars.length i)) <;> simp [h]
theorem ref_Query (N M : Nat) (f : GFml) (s : GStr) (vars : List ByteArray) (hM : 5001 < M) (hs : s.Ok) (hv : SOk N s) (hf : f.Ok) (hsh : shsF f = true) (hg : grF f = true) (hnd : ndF f ≤ 1500) (hvl : vars.length ≤ 24) (hp : N ^ vars.length ≤ 4096)
  (hok : okF N f (tl (strT N s))) :
  Tri Tryz.prog 67 [f.st, s.av, strs vars] [] (fun x h => ∃ lg, x = .ret (.tup [.sl ((qryL N M f (strT N s) vars (N ^ vars.length)).map ints), .bool lg]) ∧ h = []) := by
 have hO := ref_Of N s hs hv
 have hT := ref_Tree (ndF f) f (Nat.le_refl _) hf (by omega)
 have hTu := ref_Tuples N vars.length ⟨hv.n1, hv.n2⟩ (by omega) hp
 obtain ⟨L, hL⟩ : ∃ L, L = N ^ vars.length := ⟨_, rfl⟩
 rw [← hL] at hp hTu
 rw [← hL]
 have hsa : s.av = .st [.int .i64 N, .sl (s.Rels.map GRel.av)] := by unfold GStr.av; rw [hv.size]
 rw [hsa] at hO
 rw [hsa]
 have hvlen : ((vars.map AV.str).length : Int) = vars.length := by simp
 rw [← hvlen] at hTu
 refine Tri.enter 47 Tryz.func67 rfl rfl rfl rfl fun Fr w0 => ?_
 repeat' (first | (refine AW.r 0 ?_; refine AL.d (AOp.box_ro rfl rfl) ?_; refine AL.d (AOp.box_ro rfl rfl) ?_; refine AL.d AOp.assign_nil ?_; refine AL.e ?_; refine AL.nil ?_) | fail)
 refine AW.seq ?_
 refine AW.cut (fun af h => ∃ bw w n, af = [(2, strs vars), (4, .at (.st [.int .i64 N, .sl (s.Rels.map GRel.av)])), (6, .slt [] none 0), (8, .ref bw 0), (9, .ref n.b 0)] ∧ h = hH bw w n ∧ W0 N s.Rels.length (strT N s) w ∧ n.f = f ∧ NewT n) ?_ ?_
 ·refine AW.frame_eq rfl (show _ = [] ++ [] from rfl) ?_
  repeat' (first | fail)
  refine AW.explore2 [1,3] [1, 3, 4, 5] rfl (by kernel_rfl) (by kernel_rfl) (by kernel_rfl) (by kernel_rfl) ?_
  refine AQ2.op rfl (AOp.la) rfl rfl ?_
  refine AQ2.hole rfl rfl ?_
  refine AQ2.op rfl (AOp.la) rfl rfl ?_
  refine AQ2.hole rfl rfl ?_
  refine AQ2.hole rfl rfl ?_
  refine AQ2.hole rfl rfl ?_
  refine AQ2.nil ?_
  repeat' (first | refine AX2.one (n := 3) 1 rfl ?_ | refine AX2.one (n := 2) 3 rfl ?_ | refine AX2.one (n := 1) 4 rfl ?_ | refine AX2.one (n := 0) 5 rfl ?_ | (refine AX2S.mk (i := 1) rfl rfl rfl (AOp.call rfl rfl hO) ?_ (by rintro _ _ ⟨_, _, e, _⟩; cases e); rintro _ _ ⟨bw, w, e, rfl, hw⟩; injection e with e; subst e; dsimp only [sA, sB, sC, sD]) | (refine AX2S.mk (i := 3) rfl rfl rfl (AOp.call rfl rfl hT) ?_ (by rintro _ _ ⟨_, e, _⟩; cases e); rintro _ _ ⟨n, e, rfl, hnf, hnn⟩; injection e with e; subst e; dsimp only [sA, sB, sC, sD]) | (refine AX2S.det (i := 4) rfl rfl rfl (AOp.ev rfl) ?_; dsimp only [sA, sB, sC, sD]) | (refine AX2S.det (i := 5) rfl rfl rfl (AOp.ev rfl) ?_; dsimp only [sA, sB, sC, sD]) | fail)
  all_goals refine AX2.done_keep [2,4,6,8,9] ?_
  refine AW.perm (b := hH bw w n) ?_ (AW.meet [2, 4, 6, 8, 9] ⟨bw, w, n, rfl, rfl, hw, hnf, hnn⟩)
  rw [nown_eq]
  exact List.Perm.trans (by simp only [List.append_nil]; exact .cons _ List.perm_append_comm) (List.Perm.refl _)
 rintro _ _ ⟨bw, w, n, rfl, rfl, hw, hnf, hnn⟩
 repeat' (first | (refine xS 2 4 ?_; refine AL.d (AOp.call rfl rfl (hTu.pure _)) ?_; refine xN 1 ?_) | refine AW.go ?_ | fail)
 refine AW.own_nil 1 ?_
 repeat' (first | refine AW.re 3 1 ?_ | refine AW.go ?_ | fail)
 obtain ⟨TT0, hTT0⟩ : ∃ T, T = strT N s := ⟨_, rfl⟩
 rw [← hTT0] at hw hok ⊢
 have hlen : (((tupL N vars.length L).map ints).length : Int) = L := by rw [lM, tupL_len]
 refine AW.prune [2, 10, 6, 8, 9, 11] (AW.loop (fun mz af h => ∃ (i : Nat) (tb : Option Nat) (tc : Nat) (w1 : WS) (n1 : NT), i ≤ L ∧ mz = L - i ∧ af = [(2, strs vars), (10, .sl ((tupL N vars.length L).map ints)), (6, .slt ((qryL N M f TT0 vars i).map ints) tb tc), (8, .ref bw 0), (9, .ref n.b 0), (11, .int .i64 i)] ∧ h = .tail tb ((qryL N M f TT0 vars i).map ints).length tc 1 :: hH bw w1 n1 ∧ (Same w w1 ∧ n1.b = n.b ∧ n1.f = f ∧ KOk N M TT0 n1)) L ⟨0, none, 0, w, n, Nat.zero_le _, rfl, rfl, rfl, ⟨Same.refl hw.ok, rfl, hnf, hnn _ _ _⟩⟩ ?_)
 rintro mz af h ⟨i, tb, tc, w1, n1, hi, rfl, rfl, rfl, he⟩
 refine AW.seq ?_
 by_cases hlt : i < L
 all_goals obtain ⟨sm, nb, nf, hk⟩ := he
 ·have hx' : ((tupL N vars.length L).map ints)[((i : Nat) : Int).toNat]? = some (ints (tup N vars.length i)) := map_get (tupL_get hlt)
  have htl := tup_len N vars.length i
  have htm : ∀ y ∈ tup N vars.length i, 0 ≤ y ∧ y < N := fun y hy => tup_mem (by have := hv.n1; omega) _ _ y hy
  have hql := qryL_len N M f TT0 vars i
  have hns : w1.ns = [] := sm.ns.trans hw.ns
  have hvs : w1.vs = [] := sm.vs.trans hw.vs
  have hN1 : w1.N = N := sm.N.trans hw.eN
  have hT1 : w1.T = TT0 := sm.T.trans hw.eT
  have hTl : TT0.length = s.Rels.length := by rw [hTT0]; simp [strT]
  have htsl : w1.ts.length = s.Rels.length := by have := congrArg List.length hT1; unfold WS.T at this; rw [lM] at this; omega
  have hb1 : w1.base = s.Rels.length := sm.base.trans hw.eb
  obtain ⟨B, hB⟩ : ∃ B, B = sem N M f TT0 (vars.zip (tup N vars.length i)) := ⟨_, rfl⟩
  have hWi := w_With_ro bw (KOk N M TT0) B n1 w1 vars (tup N vars.length i) sm.ok htl (by rw [hns]; simp; omega) (fun y hy => by rw [hN1]; exact htm y hy) (fun s' h1 h2 h3 h4 h5 h6 => by
   have hT2 : s'.T = TT0 := by unfold WS.T at hT1 ⊢; rw [h4]; exact hT1
   have hV2 : s'.V = vars.zip (tup N vars.length i) := by unfold WS.V; rw [h5, h6, hns, hvs]; rfl
   have := w_Holds bw N M TT0 hM (ndF f) f n1 s' (Nat.le_refl _) nf ⟨h1, h2.trans hN1, by rw [h3, h4, hb1, htsl]; exact Nat.le_refl _, by rw [hT2, h3, hb1, ← hTl]; exact List.take_length, by rw [hT2]; exact hok, by rw [h5, hns]; simp; omega, by rw [h4, htsl]; have := hv.few; omega⟩ hf hsh hg hk
   rw [hT2, hV2, ← hB] at this
   exact this)
  rw [nb] at hWi
  have hc := Tri.ahead hWi [.tail tb ((qryL N M f TT0 vars i).map ints).length tc 1]
  have hq1 : qryL N M f TT0 vars (i + 1) = qryL N M f TT0 vars i ++ if B then [tup N vars.length i] else [] := by rw [hB]; exact qryL_snoc _ _ _ _ _ _
  clear hO hT hTu hWi
  cases B with
  | true =>
   have hmm : (qryL N M f TT0 vars (i + 1)).map ints = (qryL N M f TT0 vars i).map ints ++ [ints (tup N vars.length i)] := by rw [hq1]; simp
   repeat' (first | refine AW.re 4 4 ?_ | (refine xS 6 4 ?_; refine AL.d (iX hx') ?_; refine AL.d AOp.la ?_; refine AL.es 1 ?_; (refine AL.callQ rfl rfl hc rfl ?_ ?_; rotate_left; rintro _ _ ⟨_, ⟨e, _⟩, _⟩; cases e; rintro _ _ ⟨_, ⟨e, s3, n3, rfl, sm3, nb3, nf3, hk3⟩, rfl⟩; injection e with e; subst e) <;> refine AL.nil ?_) | refine AW.jt ?_ | refine AW.jj (fun hb => ?_) (fun hb => ?_) | refine AW.go ?_ | fail)
   all_goals try (exfalso; simp only [dT, dF, lM] at *; omega)
   repeat' (first | (refine xS 7 3 ?_; refine AL.d (iX hx') ?_; refine AL.d AOp.la ?_; refine AL.d (AOp.lit (e := 52) (sz := 1) (by kernel_rfl) rfl rfl rfl (P_one rfl) (by decide)) ?_; refine AL.append (i := 0) (e := 52) (sz := 1) (bytes := 24) rfl rfl rfl rfl (by kernel_rfl) (by kernel_rfl) (by repeat' (exact P_map fun _ => rfl)) (by repeat' (exact P_one rfl)) (ok_all (by repeat' (exact P_one rfl))) (by (try simp only [lA, lM, List.length_take, List.length_drop, List.length_cons, List.length_nil, List.length_replicate]); omega) (by (try simp only [lA, lM, List.length_take, List.length_drop, List.length_cons, List.length_nil, List.length_replicate]); omega) rfl fun b' c' => ?_ <;> refine AL.es 1 ?_ <;> refine AL.nil ?_) | (refine xS 5 1 ?_; refine AL.d AOp.ad ?_; refine xN 1 ?_) | fail)
   exact AW.again_keep (L - (i + 1)) [2, 10, 6, 8, 9, 11] (by omega) ⟨i + 1, b', c', s3, n3, hlt, rfl, by rw [hmm]; rfl, by rw [hmm]; rfl, sm.trans sm3, nb3.trans nb, nf3.trans nf, hk3⟩
  | false =>
   have hmm : qryL N M f TT0 vars (i + 1) = qryL N M f TT0 vars i := by rw [hq1]; simp
   repeat' (first | refine AW.re 4 4 ?_ | (refine xS 6 4 ?_; refine AL.d (iX hx') ?_; refine AL.d AOp.la ?_; refine AL.es 1 ?_; (refine AL.callQ rfl rfl hc rfl ?_ ?_; rotate_left; rintro _ _ ⟨_, ⟨e, _⟩, _⟩; cases e; rintro _ _ ⟨_, ⟨e, s3, n3, rfl, sm3, nb3, nf3, hk3⟩, rfl⟩; injection e with e; subst e) <;> refine AL.nil ?_) | (refine xS 5 1 ?_; refine AL.d AOp.ad ?_; refine xN 1 ?_) | refine AW.jf ?_ | refine AW.jj (fun hb => ?_) (fun hb => ?_) | refine AW.go ?_ | fail)
   all_goals try (exfalso; simp only [dT, dF, lM] at *; omega)
   exact AW.again_keep (L - (i + 1)) [2, 10, 6, 8, 9, 11] (by omega) ⟨i + 1, tb, tc, s3, n3, hlt, rfl, by rw [hmm]; rfl, by rw [hmm]; rfl, sm.trans sm3, nb3.trans nb, nf3.trans nf, hk3⟩
 ·obtain rfl : i = L := by omega
  repeat' (first | refine AW.re 4 4 ?_ | refine AW.jj (fun hb => ?_) (fun hb => ?_) | refine AW.go ?_ | fail)
  all_goals try (exfalso; simp only [dT, dF, lM] at *; omega)
  refine AW.as_sl 6 rfl ?_
  refine AW.drop (ah' := [Own.box bw w1.box]) (.cons _ (.cons _ (.cons_cons _ (List.nil_sublist _)))) ?_
  repeat' (first | (refine AW.dq 8 ?_; refine AQ.es 3 ?_; refine AQ.p rfl (AOp.fr 5) ?_; refine AQ.p rfl (AOp.ll 0) ?_; refine AQ.es 2 ?_; refine AQ.nil ?_) | fail)
  exact AW.drop (List.nil_sublist _) (AW.retv rfl ⟨w1.long, rfl, rfl⟩)
theorem law_FewS (s : GStr) (hs : s.Ok) : Tri Tryz.prog 10 [.sl [s.av]] [] (fun x h => ∃ b, x = .ret (.bool b) ∧ h = []) := by
 obtain ⟨_, hs2, hs3⟩ := hs
 have h0 : ([s.av] : List AV)[((0 : Nat) : Int).toNat]? = some (.st [.int .i64 s.Size, .sl (s.Rels.map GRel.av)]) := rfl
 have h0' : ([s.av] : List AV)[(0 : Int).toNat]? = some (.st [.int .i64 s.Size, .sl (s.Rels.map GRel.av)]) := rfl
 refine Tri.enter 89 Tryz.func10 rfl rfl rfl rfl fun Fr w0 => ?_
 repeat' (first | refine AW.re 0 1 ?_ | refine AW.re 1 2 ?_ | refine AW.re 2 1 ?_ | refine AW.go ?_ | fail)
 refine AW.prune [0, 3, 4, 5] (AW.loop (fun m af h => ∃ (i : Nat) (T e : Int), i ≤ 1 ∧ m = 1 - i ∧ af = [(0, .sl [s.av]), (3, .int .i64 T), (4, .int .i64 e), (5, .int .i64 i)] ∧ h = [] ∧ 0 ≤ T ∧ T ≤ 1500 ∧ 0 ≤ e ∧ e ≤ T * 17592186044416 ∧ (i = 0 → T = 0)) 1 ⟨0, 0, 0, by omega, rfl, rfl, rfl, by omega, by omega, by omega, by omega, fun _ => rfl⟩ ?_)
 rintro m af h ⟨i, T, e, hi, rfl, rfl, rfl, hT0, hT1, he0, he1, hi0⟩
 refine AW.seq ?_
 by_cases hlt : i < 1
 ·obtain rfl : i = 0 := by omega
  repeat' (first | refine AW.re 3 4 ?_ | (refine xS 5 2 ?_; refine AL.d (iX h0) ?_; refine xN 4 ?_) | refine AW.re 6 1 ?_ | refine AW.re 7 1 ?_ | refine AW.jt ?_ | refine AW.jj (fun hb => ?_) (fun hb => ?_) | refine AW.go ?_ | fail)
  all_goals try (exfalso; simp only [dT, dF] at *; simp at *; done)
  ·exact AW.retv rfl ⟨_, rfl, rfl⟩
  have hR : s.Rels.length ≤ 12 := by simp only [dF, lM] at hb; omega
  refine AW.prune [0, 3, 4, 5, 6] (AW.loop (fun m af h => ∃ (k : Nat) (T e : Int), k ≤ s.Rels.length ∧ m = s.Rels.length - k ∧ af = [(0, .sl [s.av]), (3, .int .i64 T), (4, .int .i64 e), (5, .int .i64 0), (6, .int .i64 k)] ∧ h = [] ∧ 0 ≤ T ∧ T ≤ 1500 ∧ 0 ≤ e ∧ e ≤ T * 17592186044416) s.Rels.length ⟨0, T, e, Nat.zero_le _, rfl, rfl, rfl, hT0, hT1, he0, he1⟩ ?_)
  rintro m af h ⟨k, T, e, hk, rfl, rfl, rfl, hT0, hT1, he0, he1⟩
  refine AW.seq ?_
  by_cases hlt2 : k < s.Rels.length
  ·obtain ⟨r, hr⟩ := get_lt hlt2
   have hr' : (s.Rels.map GRel.av)[((k : Nat) : Int).toNat]? = some (.st [.str r.Name, .int .i64 r.Arity, .sl (r.Tuples.map ints)]) := map_get hr
   obtain ⟨_, _, hr3, hr4⟩ := hs3 r (lG hr)
   have hTl : ((r.Tuples.map ints).length : Int) = r.Tuples.length := by simp
   repeat' (first | (refine xS 8 3 ?_; refine AL.d (iX h0) ?_; refine xN 4 ?_) | (refine xS 10 3 ?_; refine AL.d (iX h0) ?_; refine AL.es 3 ?_; refine AL.d (iX hr') ?_; refine AL.es 3 ?_; refine AL.d AOp.ad ?_; refine xN 1 ?_) | (refine xS 11 3 ?_; ((refine AL.gx (fun hb => ?_) (fun hb => ?_) <;> refine AL.es 2 ?_)) <;> (first | (refine AL.gd ?_; (refine AL.d (iX h0) ?_)) | refine AL.gs ?_) <;> refine AL.es 3 ?_ <;> (first | (refine AL.gd ?_; (refine AL.d (iX hr') ?_)) | refine AL.gs ?_) <;> refine AL.es 5 ?_ <;> refine AL.nil ?_) | refine AW.re 12 1 ?_ | refine AW.re 13 1 ?_ | refine AW.jt ?_ | refine AW.jj (fun hb => ?_) (fun hb => ?_) | refine AW.go ?_ | fail)
   all_goals first
    | (exfalso; simp only [dT, dF, lM] at *; omega)
    | exact AW.retv rfl ⟨_, rfl, rfl⟩
    | skip
   have hT2 : T + r.Tuples.length ≤ 1500 := by simp only [dT, dF, lM] at *; omega
   refine AW.prune [0, 3, 4, 5, 6, 7] (AW.loop (fun m af h => ∃ (j : Nat) (e : Int), j ≤ r.Tuples.length ∧ m = r.Tuples.length - j ∧ af = [(0, .sl [s.av]), (3, .int .i64 (T + (r.Tuples.map ints).length)), (4, .int .i64 e), (5, .int .i64 0), (6, .int .i64 k), (7, .int .i64 j)] ∧ h = [] ∧ 0 ≤ e ∧ e ≤ (T + j) * 17592186044416) r.Tuples.length ⟨0, e, Nat.zero_le _, rfl, rfl, rfl, he0, by omega⟩ ?_)
   rintro m af h ⟨j, e, hj, rfl, rfl, rfl, he0, he1⟩
   refine AW.seq ?_
   by_cases hlt3 : j < r.Tuples.length
   ·obtain ⟨t, ht⟩ := get_lt hlt3
    have ht' : (r.Tuples.map ints)[((j : Nat) : Int).toNat]? = some (ints t) := map_get ht
    have htl : ((t.map iav).length : Int) = t.length := by simp
    have htb := (hr4 t (lG ht)).1
    repeat' (first | (refine xS 14 3 ?_; refine AL.d (iX h0) ?_; refine AL.es 3 ?_; refine AL.d (iX hr') ?_; refine xN 4 ?_) | (refine xS 16 3 ?_; refine AL.d (iX h0) ?_; refine AL.es 3 ?_; refine AL.d (iX hr') ?_; refine AL.es 3 ?_; refine AL.d (iX ht') ?_; refine AL.es 2 ?_; refine AL.d AOp.ad ?_; refine xN 1 ?_) | (refine xS 15 1 ?_; refine AL.d AOp.ad ?_; refine xN 1 ?_) | refine AW.jj (fun hb => ?_) (fun hb => ?_) | refine AW.go ?_ | fail)
    all_goals first
     | (exfalso; simp only [dT, dF, lM] at *; omega)
     | exact AW.again_keep (r.Tuples.length - (j + 1)) [0, 3, 4, 5, 6, 7] (by omega) ⟨j + 1, _, hlt3, rfl, rfl, rfl, by omega, by omega⟩
   ·repeat' (first | (refine xS 14 3 ?_; refine AL.d (iX h0) ?_; refine AL.es 3 ?_; refine AL.d (iX hr') ?_; refine xN 4 ?_) | (refine xS 9 1 ?_; refine AL.d AOp.ad ?_; refine xN 1 ?_) | refine AW.jj (fun hb => ?_) (fun hb => ?_) | refine AW.go ?_ | fail)
    all_goals first
     | (exfalso; simp only [dT, dF, lM] at *; omega)
     | exact AW.again_keep (s.Rels.length - (k + 1)) [0, 3, 4, 5, 6] (by omega) ⟨k + 1, _, _, hlt2, rfl, rfl, rfl, by omega, by omega, he0, by rw [hTl]; rw [show j = r.Tuples.length from by omega] at he1; exact he1⟩
  ·repeat' (first | (refine xS 8 3 ?_; refine AL.d (iX h0) ?_; refine xN 4 ?_) | (refine xS 4 1 ?_; refine AL.d AOp.ad ?_; refine xN 1 ?_) | refine AW.jj (fun hb => ?_) (fun hb => ?_) | refine AW.go ?_ | fail)
   all_goals first
    | (exfalso; simp only [dT, dF, lM] at *; omega)
    | exact AW.again_keep 0 [0, 3, 4, 5] (by omega) ⟨1, T, e, by omega, rfl, rfl, rfl, hT0, hT1, he0, he1, by omega⟩
 ·repeat' (first | refine AW.re 3 4 ?_ | refine AW.re 17 3 ?_ | refine AW.jj (fun hb => ?_) (fun hb => ?_) | refine AW.go ?_ | fail)
  all_goals first
   | (exfalso; simp only [dT, dF, List.length_cons, List.length_nil] at *; omega)
   | exact AW.retv rfl ⟨_, rfl, rfl⟩
   | exact AW.donev rfl ⟨_, rfl, rfl⟩
def fitA (s : GStr) (a : GSym) : Bool := match s.Rels.find? (fun q => decide (q.Name = a.Name)) with | some r => decide (r.Arity = a.Arity) | none => false
def fitsB (s : GStr) (l : List GSym) : Bool := l.all (fitA s)
def findN (s : GStr) (n : ByteArray) : Int := idxFrom (fun q : GRel => decide (q.Name = n)) s.Rels 0
theorem findN_spec (s : GStr) (n : ByteArray) : (findN s n = -1 ∧ s.Rels.find? (fun q => decide (q.Name = n)) = none) ∨ ∃ (k : Nat) (r : GRel), findN s n = (k : Int) ∧ s.Rels[k]? = some r ∧ s.Rels.find? (fun q => decide (q.Name = n)) = some r := by
 have key : ∀ (l : List GRel) (i : Nat), (idxFrom (fun q : GRel => decide (q.Name = n)) l i = -1 ∧ l.find? (fun q => decide (q.Name = n)) = none) ∨ ∃ (k : Nat) (r : GRel), idxFrom (fun q : GRel => decide (q.Name = n)) l i = ((i + k : Nat) : Int) ∧ l[k]? = some r ∧ l.find? (fun q => decide (q.Name = n)) = some r := by
  intro l
  induction l with
  | nil => intro i; exact .inl ⟨rfl, rfl⟩
  | cons x l ih =>
   intro i
   rw [idxFrom]
   by_cases hx : x.Name = n
   ·rw [if_pos (by simpa using hx)]
    exact .inr ⟨0, x, rfl, rfl, by simp [hx]⟩
   ·rw [if_neg (by simpa using hx)]
    rcases ih (i + 1) with ⟨h1, h2⟩ | ⟨k, r, h1, h2, h3⟩
    ·exact .inl ⟨h1, by simp [hx, h2]⟩
    ·exact .inr ⟨k + 1, r, by rw [h1]; congr 1; omega, by simpa using h2, by simp [hx, h3]⟩
 rcases key s.Rels 0 with h | ⟨k, r, h1, h2⟩
 ·exact .inl h
 ·exact .inr ⟨k, r, by unfold findN; rw [h1, Nat.zero_add], h2⟩
theorem ref_FindS (s : GStr) (hs : s.Ok) (n : ByteArray) : Tri Tryz.prog 153 [s.av, .str n] [] (D (.int .i64 (findN s n)) []) := by
 have hl : s.Rels.length ≤ 4611686018427387904 := by have := hs.2.1; omega
 refine Tri.enter 22 Tryz.func153 rfl rfl rfl rfl fun Fr w0 => ?_
 repeat' (first | (refine AW.r 0 ?_; refine AL.d (AOp.box_ro rfl rfl) ?_; refine xN 1 ?_) | refine AW.re 1 1 ?_ | refine AW.go ?_ | fail)
 refine AW.prune [1, 2, 5] (AW.loop (fun mz af h => ∃ (i : Nat), i ≤ s.Rels.length ∧ mz = s.Rels.length - i ∧ af = [(1, .str n), (2, .at s.av), (5, .int .i64 i)] ∧ h = [] ∧ findN s n = idxFrom (fun q : GRel => decide (q.Name = n)) (s.Rels.drop i) i) s.Rels.length ⟨0, Nat.zero_le _, rfl, rfl, rfl, rfl⟩ ?_)
 rintro mz af h ⟨i, hi, rfl, rfl, rfl, he⟩
 refine AW.seq ?_
 by_cases hlt : i < s.Rels.length
 ·obtain ⟨x, hx⟩ := get_lt hlt
  have hx' : (s.Rels.map GRel.av)[((i : Nat) : Int).toNat]? = some x.av := map_get hx
  rw [drop_cons hx, idxFrom] at he
  repeat' (first | refine AW.re 2 5 ?_ | (refine xS 4 3 ?_; refine AL.d (iX hx') ?_; refine xN 4 ?_) | refine AW.re 5 2 ?_ | (refine xS 3 1 ?_; refine AL.d AOp.ad ?_; refine xN 1 ?_) | refine AW.jj (fun hb => ?_) (fun hb => ?_) | refine AW.go ?_ | fail)
  all_goals try (exfalso; simp only [dT, dF, lM] at *; omega)
  all_goals rw [toList_beq] at hb
  ·rw [if_pos (by simpa using hb)] at he
   exact AW.retv rfl ⟨by rw [he], rfl⟩
  ·rw [if_neg (by simpa using hb)] at he
   exact AW.again_keep (s.Rels.length - (i + 1)) [1, 2, 5] (by omega) ⟨i + 1, hlt, rfl, rfl, rfl, he⟩
 ·rw [List.drop_eq_nil_of_le (by omega), idxFrom] at he
  repeat' (first | refine AW.re 2 5 ?_ | refine AW.re 6 1 ?_ | refine AW.jj (fun hb => ?_) (fun hb => ?_) | refine AW.go ?_ | fail)
  all_goals try (exfalso; simp only [dT, dF, lM] at *; omega)
  exact AW.retv rfl ⟨by rw [he]; rfl, rfl⟩
theorem ref_Fits (s : GStr) (hs : s.Ok) (l : List GSym) (hll : l.length ≤ 4611686018427387904) : Tri Tryz.prog 110 [s.av, .sl (l.map GSym.av)] [] (D (.bool (fitsB s l)) []) := by
 refine Tri.enter 36 Tryz.func110 rfl rfl rfl rfl fun Fr w0 => ?_
 repeat' (first | (refine AW.r 0 ?_; refine AL.d (AOp.box_ro rfl rfl) ?_; refine xN 1 ?_) | refine AW.re 1 1 ?_ | refine AW.go ?_ | fail)
 refine AW.prune [1, 2, 5] (AW.loop (fun mz af h => ∃ (i : Nat), i ≤ l.length ∧ mz = l.length - i ∧ af = [(1, .sl (l.map GSym.av)), (2, .at s.av), (5, .int .i64 i)] ∧ h = [] ∧ fitsB s l = fitsB s (l.drop i)) l.length ⟨0, Nat.zero_le _, rfl, rfl, rfl, rfl⟩ ?_)
 rintro mz af h ⟨i, hi, rfl, rfl, rfl, he⟩
 refine AW.seq ?_
 by_cases hlt : i < l.length
 ·obtain ⟨x, hx⟩ := get_lt hlt
  have hx' : (l.map GSym.av)[((i : Nat) : Int).toNat]? = some x.av := map_get hx
  have hF := ref_FindS s hs x.Name
  rw [drop_cons hx, fitsB, fitsB, List.all_cons, fitA] at he
  rcases findN_spec s x.Name with ⟨e1, e2⟩ | ⟨k, r, e1, e2, e3⟩
  ·rw [e1] at hF
   rw [e2] at he
   repeat' (first | refine AW.re 2 4 ?_ | (refine AW.dq 4 ?_; refine AQ.es 3 ?_; refine AQ.p rfl (iX hx') ?_; refine AQ.es 2 ?_; refine AQ.p rfl (AOp.call rfl rfl hF) ?_; refine AQ.es 1 ?_; refine AQ.nil ?_) | (refine AW.dq 5 ?_; refine AQ.es 3 ?_; refine AQ.es 3 ?_; refine AQ.k ?_; refine AQ.es 4 ?_; refine AQ.k ?_; refine AQ.es 4 ?_; refine AQ.nil ?_) | refine AW.re 6 1 ?_ | refine AW.jt ?_ | refine AW.jj (fun hb => ?_) (fun hb => ?_) | refine AW.go ?_ | fail)
   all_goals try (exfalso; simp only [dT, dF, lM] at *; omega)
   exact AW.retv rfl ⟨by rw [fitsB, he]; rfl, rfl⟩
  ·rw [e1] at hF
   rw [e3] at he
   change l.all (fitA s) = (decide (r.Arity = x.Arity) && (l.drop (i + 1)).all (fitA s)) at he
   have hr' : (s.Rels.map GRel.av)[((k : Nat) : Int).toNat]? = some r.av := map_get e2
   repeat' (first | refine AW.re 2 4 ?_ | refine AW.jj (fun hb => ?_) (fun hb => ?_) | refine AW.go ?_ | fail)
   all_goals try (exfalso; simp only [dT, dF, lM] at *; omega)
   repeat' (first | (refine AW.dq 4 ?_; refine AQ.es 3 ?_; refine AQ.p rfl (iX hx') ?_; refine AQ.es 2 ?_; refine AQ.p rfl (AOp.call rfl rfl hF) ?_; refine AQ.es 1 ?_; refine AQ.nil ?_) | (refine AW.dq 5 ?_; refine AQ.es 3 ?_; refine AQ.es 3 ?_; refine AQ.gp rfl (iX hr') ?_; refine AQ.es 4 ?_; refine AQ.gp rfl (iX hx') ?_; refine AQ.es 4 ?_; refine AQ.nil ?_) | refine AW.re 6 1 ?_ | (refine xS 3 1 ?_; refine AL.d AOp.ad ?_; refine xN 1 ?_) | refine AW.jj (fun hb => ?_) (fun hb => ?_) | fail)
   all_goals try (exfalso; simp only [dT, dF, lM] at *; omega)
   all_goals simp only [bne_iff_ne, ne_eq, bne_eq_false_iff_eq] at hb
   ·exact AW.retv rfl ⟨by rw [fitsB, he, decide_eq_false hb]; rfl, rfl⟩
   ·refine AW.again_keep (l.length - (i + 1)) [1, 2, 5] (by omega) ⟨i + 1, hlt, rfl, rfl, rfl, ?_⟩
    rw [fitsB, he, decide_eq_true hb]; rfl
 ·rw [List.drop_eq_nil_of_le (by omega)] at he
  repeat' (first | refine AW.re 2 4 ?_ | refine AW.re 7 1 ?_ | refine AW.jj (fun hb => ?_) (fun hb => ?_) | refine AW.go ?_ | fail)
  all_goals try (exfalso; simp only [dT, dF, lM] at *; omega)
  exact AW.retv rfl ⟨by rw [he]; rfl, rfl⟩
theorem ref_Equal (a b : List Int) (ha : a.length ≤ 4611686018427387904) (hb : b.length ≤ 4611686018427387904) : Tri Tryz.prog 68 [ints a, ints b] [] (D (.bool (decide (a = b))) []) := by
 by_cases hl : a.length = b.length
 ·refine Tri.enter 26 Tryz.func68 rfl rfl rfl rfl fun Fr w0 => ?_
  repeat' (first | refine AW.re 0 1 ?_ | refine AW.re 1 5 ?_ | refine AW.re 2 1 ?_ | refine AW.re 3 1 ?_ | refine AW.jj (fun hb => ?_) (fun hb => ?_) | refine AW.go ?_ | fail)
  ·exfalso; simp [hl] at hb
  rename_i hb1
  refine AW.prune [0, 1, 5] (AW.loop (fun m af h => ∃ i : Nat, i ≤ a.length ∧ m = a.length - i ∧ af = [(0, ints a), (1, ints b), (5, .int .i64 i)] ∧ h = [] ∧ (a = b ↔ a.drop i = b.drop i)) a.length ⟨0, Nat.zero_le _, rfl, rfl, rfl, Iff.rfl⟩ ?_)
  rintro m af h ⟨i, hi, rfl, rfl, rfl, he⟩
  refine AW.seq ?_
  by_cases hlt : i < a.length
  ·obtain ⟨x, hx⟩ := get_lt hlt
   obtain ⟨y, hy⟩ := get_lt (hl ▸ hlt)
   have hx' : (a.map iav)[((i : Nat) : Int).toNat]? = some (iav x) := map_get hx
   have hy' : (b.map iav)[((i : Nat) : Int).toNat]? = some (iav y) := map_get hy
   rw [drop_cons hx, drop_cons hy, List.cons.injEq] at he
   repeat' (first | refine AW.re 4 4 ?_ | (refine AW.dq 6 ?_; refine AQ.es 2 ?_; refine AQ.p rfl (iX hx') ?_; refine AQ.es 3 ?_; refine AQ.p rfl (iX hy') ?_; refine AQ.es 2 ?_; refine AQ.nil ?_) | refine AW.re 7 1 ?_ | (refine xS 5 1 ?_; refine AL.d AOp.ad ?_; refine xN 1 ?_) | refine AW.re 8 1 ?_ | refine AW.jj (fun hb => ?_) (fun hb => ?_) | fail)
   all_goals first
    | (exfalso; simp only [dT, dF, lM] at *; omega)
    | (refine AW.retv rfl ⟨?_, rfl⟩; have hne : x ≠ y := (by simpa using hb); simp [he, hne, ofConst]; done)
    | (refine AW.again_keep (a.length - (i + 1)) [0, 1, 5] (by omega) ⟨i + 1, hlt, rfl, rfl, rfl, ?_⟩; have hne : x = y := (by simpa using hb); simp [he, hne]; done)
  ·repeat' (first | refine AW.re 4 4 ?_ | refine AW.re 8 1 ?_ | refine AW.jj (fun hb => ?_) (fun hb => ?_) | refine AW.go ?_ | fail)
   all_goals first
    | (exfalso; simp only [dT, dF, lM] at *; omega)
    | (refine AW.retv rfl ⟨?_, rfl⟩; rw [List.drop_eq_nil_of_le (by omega), List.drop_eq_nil_of_le (by omega)] at he; simp [he, ofConst]; done)
 ·have hne : a ≠ b := fun h => hl (by rw [h])
  refine Tri.enter 26 Tryz.func68 rfl rfl rfl rfl fun Fr w0 => ?_
  repeat' (first | refine AW.re 0 1 ?_ | refine AW.re 1 5 ?_ | refine AW.re 2 1 ?_ | refine AW.re 3 1 ?_ | refine AW.jj (fun hb => ?_) (fun hb => ?_) | refine AW.go ?_ | fail)
  ·exact AW.retv rfl ⟨by simp [hne, ofConst], rfl⟩
  ·exfalso; simp at hb; omega
def capI (n : Int) : Int := min n 1099511627776
def timesI (a b : Int) : Int := if 0 < a ∧ 1099511627776 / a < b then 1099511627776 else capI (a * b)
def powI (n : Int) : Nat → Int → Int
 | 0, p => p
 | k + 1, p => powI n k (timesI p n)
def cB (n : Int) : Prop := 0 ≤ n ∧ n ≤ 1099511627776
theorem capI_B {n : Int} (h : 0 ≤ n) : cB (capI n) := by unfold capI cB; omega
theorem mul_le_of_div {a b : Int} (h0 : 0 < a) (hb : 0 ≤ b) (h : ¬ 1099511627776 / a < b) : a * b ≤ 1099511627776 := by
 have h1 : b ≤ 1099511627776 / a := by omega
 have h2 := Int.mul_le_mul_of_nonneg_left h1 (show 0 ≤ a by omega)
 have h3 := Int.mul_ediv_self_le (x := 1099511627776) (k := a) (by omega)
 omega
theorem timesI_B {a b : Int} (ha : cB a) (hb : cB b) : cB (timesI a b) := by
 unfold timesI
 split
 ·exact ⟨by omega, by omega⟩
 ·exact capI_B (Int.mul_nonneg ha.1 hb.1)
theorem powI_B {n : Int} (hn : cB n) : ∀ (k : Nat) (p : Int), cB p → cB (powI n k p)
 | 0, p, h => h
 | k + 1, p, h => powI_B hn k _ (timesI_B h hn)
def costK (N k : Int) (v : Nat) (ar : Int) (c : Int) : Int :=
 if k = 6 ∨ k = 7 ∨ k = 10 then timesI (powI N v 1) c
 else if k = 8 then timesI (timesI (powI N v 1) (powI N v 1)) c
 else if k = 9 then timesI (timesI 64 (powI N v 1)) c
 else if k = 11 then timesI (powI 2 (min (powI N ar.toNat 1) 50).toNat 1) c
 else c
mutual
def costF (N : Int) : GFml → Int
 | ⟨k, ar, nm, vars, args, kids⟩ => capI (1 + costK N k vars.length ar (costL N kids 0))
def costL (N : Int) : List GFml → Int → Int
 | [], c => c
 | x :: l, c => costL N l (capI (c + costF N x))
end
theorem costK_B {N k ar c : Int} {v : Nat} (hN : cB N) (hc : cB c) : cB (costK N k v ar c) := by
 have hp : ∀ n k, cB n → cB (powI n k 1) := fun n k h => powI_B h k 1 ⟨by omega, by omega⟩
 unfold costK
 split
 ·exact timesI_B (hp _ _ hN) hc
 ·split
  ·exact timesI_B (timesI_B (hp _ _ hN) (hp _ _ hN)) hc
  ·split
   ·exact timesI_B (timesI_B ⟨by omega, by omega⟩ (hp _ _ hN)) hc
   ·split
    ·exact timesI_B (hp _ _ ⟨by omega, by omega⟩) hc
    ·exact hc
mutual
theorem costF_B {N : Int} (hN : cB N) : ∀ f : GFml, cB (costF N f)
 | ⟨k, ar, nm, vars, args, kids⟩ => by
  rw [costF]
  have := costK_B (k := k) (ar := ar) (v := vars.length) hN (costL_B hN kids 0 ⟨by omega, by omega⟩)
  exact capI_B (by have := this.1; omega)
theorem costL_B {N : Int} (hN : cB N) : ∀ (l : List GFml) (c : Int), cB c → cB (costL N l c)
 | [], c, h => by rw [costL]; exact h
 | x :: l, c, h => by
  rw [costL]
  have := costF_B hN x
  exact costL_B hN l _ (capI_B (by have := this.1; have := h.1; omega))
end
theorem ref_capped (n : Int) : Tri Tryz.prog 113 [.int .i64 n] [] (D (.int .i64 (capI n)) []) := by
 refine Tri.enter 5 Tryz.func113 rfl rfl rfl rfl fun Fr w0 => ?_
 repeat' (first | refine AW.re 0 1 ?_ | (refine xS 1 1 ?_; refine AL.d (AOp.min2 rfl rfl) ?_; refine xN 1 ?_) | fail)
 exact AW.retv rfl ⟨rfl, rfl⟩
theorem ref_times (a b : Int) (ha : cB a) (hb : cB b) : Tri Tryz.prog 115 [.int .i64 a, .int .i64 b] [] (D (.int .i64 (timesI a b)) []) := by
 have hC := ref_capped (a * b)
 obtain ⟨a0, a1⟩ := ha
 obtain ⟨b0, b1⟩ := hb
 by_cases hz : 0 < a
 ·by_cases hq : 1099511627776 / a < b
  ·have hv : timesI a b = 1099511627776 := by unfold timesI; rw [if_pos ⟨hz, hq⟩]
   rw [hv]
   refine Tri.enter 17 Tryz.func115 rfl rfl rfl rfl fun Fr w0 => ?_
   repeat' (first | refine AW.re 0 1 ?_ | (refine xS 1 3 ?_; ((refine AL.gx (fun hb => ?_) (fun hb => ?_) <;> refine AL.es 2 ?_)) <;> (first | (refine AL.gd ?_; refine AL.d (AOp.quo rfl rfl (by omega) hz) ?_) | refine AL.gs ?_) <;> refine AL.es 2 ?_ <;> refine AL.nil ?_) | refine AW.re 2 1 ?_ | refine AW.jf ?_ | refine AW.jj (fun hb => ?_) (fun hb => ?_) | refine AW.go ?_ | fail)
   all_goals try (exfalso; simp only [dT, dF, lM] at *; omega)
   exact AW.retv rfl ⟨rfl, rfl⟩
  ·have hv : timesI a b = capI (a * b) := by unfold timesI; rw [if_neg fun h => hq h.2]
   have hm := mul_le_of_div hz b0 hq
   have hm0 := Int.mul_nonneg a0 b0
   rw [hv]
   refine Tri.enter 17 Tryz.func115 rfl rfl rfl rfl fun Fr w0 => ?_
   repeat' (first | refine AW.re 0 1 ?_ | (refine xS 1 3 ?_; ((refine AL.gx (fun hb => ?_) (fun hb => ?_) <;> refine AL.es 2 ?_)) <;> (first | (refine AL.gd ?_; (refine AL.d (AOp.quo rfl rfl (by omega) hz) ?_)) | refine AL.gs ?_) <;> refine AL.es 2 ?_ <;> refine AL.nil ?_) | (refine xS 3 2 ?_; refine AL.d (AOp.mul rfl rfl (by omega)) ?_; refine AL.d (AOp.call rfl rfl hC) ?_; refine xN 1 ?_) | refine AW.jf ?_ | refine AW.jj (fun hb => ?_) (fun hb => ?_) | refine AW.go ?_ | fail)
   all_goals try (exfalso; simp only [dT, dF, lM] at *; omega)
   exact AW.retv rfl ⟨rfl, rfl⟩
 ·obtain rfl : a = 0 := by omega
  have hv : timesI 0 b = capI (0 * b) := by unfold timesI; rw [if_neg fun h => hz h.1]
  rw [hv]
  refine Tri.enter 17 Tryz.func115 rfl rfl rfl rfl fun Fr w0 => ?_
  repeat' (first | refine AW.re 0 1 ?_ | refine AW.go ?_ | fail)
  all_goals try (exfalso; simp only [dT, dF, lM] at *; omega)
  repeat' (first | (refine xS 1 3 ?_; refine AL.es 2 ?_; refine AL.gs ?_; refine xN 2 ?_) | (refine xS 3 2 ?_; refine AL.d (AOp.mul rfl rfl (by omega)) ?_; refine AL.d (AOp.call rfl rfl hC) ?_; refine xN 1 ?_) | refine AW.jf ?_ | fail)
  exact AW.retv rfl ⟨rfl, rfl⟩
theorem ref_power03 (n : Int) (hn : cB n) (k : Nat) (hk : k ≤ 100000) : Tri Tryz.prog 114 [.int .i64 n, .int .i64 k] [] (D (.int .i64 (powI n k 1)) []) := by
 refine Tri.enter 16 Tryz.func114 rfl rfl rfl rfl fun Fr w0 => ?_
 repeat' (first | refine AW.re 0 1 ?_ | refine AW.re 1 1 ?_ | refine AW.re 2 1 ?_ | refine AW.go ?_ | fail)
 refine AW.prune [0, 1, 5, 6] (AW.loop (fun mz af h => ∃ (i : Nat) (p : Int), i ≤ k ∧ mz = k - i ∧ af = [(0, .int .i64 n), (1, .int .i64 k), (5, .int .i64 p), (6, .int .i64 i)] ∧ h = [] ∧ (cB p ∧ powI n k 1 = powI n (k - i) p)) k ⟨0, 1, Nat.zero_le _, rfl, rfl, rfl, ⟨⟨by omega, by omega⟩, rfl⟩⟩ ?_)
 rintro mz af h ⟨i, p, hi, rfl, rfl, rfl, he⟩
 refine AW.seq ?_
 by_cases hlt : i < k
 all_goals obtain ⟨hp, he⟩ := he
 ·rw [show k - i = (k - (i + 1)) + 1 by omega, powI] at he
  have hT := ref_times p n hp hn
  repeat' (first | refine AW.re 3 3 ?_ | (refine xS 5 2 ?_; refine AL.d (AOp.call rfl rfl hT) ?_; refine xN 1 ?_) | (refine xS 4 1 ?_; refine AL.d AOp.ad ?_; refine xN 1 ?_) | refine AW.jj (fun hb => ?_) (fun hb => ?_) | refine AW.go ?_ | fail)
  all_goals try (exfalso; simp only [dT, dF, lM] at *; omega)
  exact AW.again_keep (k - (i + 1)) [0, 1, 5, 6] (by omega) ⟨i + 1, _, hlt, rfl, rfl, rfl, timesI_B hp hn, he⟩
 ·rw [show k - i = 0 by omega, powI] at he
  repeat' (first | refine AW.re 3 3 ?_ | refine AW.re 6 2 ?_ | refine AW.jj (fun hb => ?_) (fun hb => ?_) | refine AW.go ?_ | fail)
  all_goals try (exfalso; simp only [dT, dF, lM] at *; omega)
  exact AW.retv rfl ⟨by rw [he], rfl⟩
theorem ref_Cost (N : Int) (hN : cB N) : ∀ (d : Nat) (f : GFml), ndF f ≤ d → f.Ok → shsF f = true → ndF f ≤ 100000 → Tri Tryz.prog 66 [f.st, .int .i64 N] [] (D (.int .i64 (costF N f)) []) := by
 intro d
 induction d with
 | zero => intro f hD; have := ndF_eq f; omega
 | succ d ih =>
  intro f hD hok hsh hnd
  have hnd' := ndF_eq f
  have hsp : shapedP f = true := by rw [shsF_eq, bA] at hsh; exact hsh.2
  have hvl := shaped_vars hsp
  have har := shaped_ar hsp
  obtain ⟨hko⟩ := hok
  rename_i hko1 hko2
  have hkx : ∀ x ∈ f.Kids, x.Ok ∧ shsF x = true ∧ ndF x ≤ d ∧ ndF x ≤ 100000 := fun x hx => by
   have := ndFs_mem hx
   exact ⟨hko2 x hx, shsFs_mem (shsF_kids hsh) hx, by omega, by omega⟩
  have hkl := ndFs_len f.Kids
  have hpV := ref_power03 N hN f.Vars.length (by omega)
  have hpA := ref_power03 N hN f.Arity.toNat (by omega)
  have hpB : cB (powI N f.Vars.length 1) := powI_B hN _ _ ⟨by omega, by omega⟩
  have hpB2 : cB (powI N f.Arity.toNat 1) := powI_B hN _ _ ⟨by omega, by omega⟩
  obtain ⟨k, ar, nm, vars, args, kids⟩ := f
  simp only [] at hkx hkl hnd' hvl har hpV hpA hpB hpB2
  have hF : costF N ⟨k, ar, nm, vars, args, kids⟩ = capI (1 + costK N k vars.length ar (costL N kids 0)) := by rw [costF]
  have hvlen : ((vars.map AV.str).length : Int) = vars.length := by simp
  have hart : ((ar.toNat : Nat) : Int) = ar := by omega
  rw [hF]
  rw [← hvlen] at hpV
  rw [hart] at hpA
  unfold costK
  generalize powI N vars.length 1 = all at *
  refine Tri.enter 65 Tryz.func66 rfl rfl rfl rfl fun Fr w0 => ?_
  repeat' (first | (refine AW.r 0 ?_; refine AL.d (AOp.box_ro rfl rfl) ?_; refine xN 1 ?_) | refine AW.re 1 1 ?_ | refine AW.re 2 1 ?_ | refine AW.go ?_ | fail)
  refine AW.prune [1, 2, 5, 6] (AW.loop (fun mz af h => ∃ (i : Nat) (c : Int), i ≤ kids.length ∧ mz = kids.length - i ∧ af = [(1, .int .i64 N), (2, .at (⟨k, ar, nm, vars, args, kids⟩ : GFml).st), (5, .int .i64 c), (6, .int .i64 i)] ∧ h = [] ∧ (cB c ∧ costL N kids 0 = costL N (kids.drop i) c)) kids.length ⟨0, 0, Nat.zero_le _, rfl, rfl, rfl, ⟨⟨by omega, by omega⟩, rfl⟩⟩ ?_)
  rintro mz af h ⟨i, c, hi, rfl, rfl, rfl, he⟩
  refine AW.seq ?_
  by_cases hlt : i < kids.length
  all_goals obtain ⟨hc, he⟩ := he
  ·obtain ⟨x, hx⟩ := get_lt hlt
   have hx' : (kids.map GFml.av)[((i : Nat) : Int).toNat]? = some x.st := by rw [← GFml.av_eq]; exact map_get hx
   obtain ⟨q1, q2, q3, q4⟩ := hkx x (lG hx)
   have hC := ih x q3 q1 q2 q4
   have hCB := costF_B hN x
   have hP := ref_capped (c + costF N x)
   rw [drop_cons hx, costL] at he
   generalize costF N x = cx at *
   obtain ⟨c0, c1⟩ := hc
   obtain ⟨x0, x1⟩ := hCB
   repeat' (first | refine AW.re 3 5 ?_ | refine AW.jj (fun hb => ?_) (fun hb => ?_) | refine AW.go ?_ | fail)
   all_goals try (exfalso; simp only [dT, dF, lM] at *; omega)
   repeat' (first | (refine xS 5 4 ?_; refine AL.d (iX hx') ?_; refine AL.es 2 ?_; refine AL.d (AOp.call rfl rfl hC) ?_; refine AL.d AOp.ad ?_; refine AL.d (AOp.call rfl rfl hP) ?_; refine xN 1 ?_) | (refine xS 4 1 ?_; refine AL.d AOp.ad ?_; refine xN 1 ?_) | fail)
   exact AW.again_keep (kids.length - (i + 1)) [1, 2, 5, 6] (by omega) ⟨i + 1, _, hlt, rfl, rfl, rfl, capI_B (by omega), he⟩
  ·rw [List.drop_eq_nil_of_le (by omega), costL] at he
   rw [he]
   clear he ih hkx
   repeat' (first | refine AW.re 3 5 ?_ | refine AW.jj (fun hb => ?_) (fun hb => ?_) | refine AW.go ?_ | fail)
   all_goals try (exfalso; simp only [dT, dF, lM] at *; omega)
   have t1 := ref_times all c hpB hc
   have t2 := ref_times all all hpB hpB
   have t3 := ref_times (timesI all all) c (timesI_B hpB hpB) hc
   have t4 := ref_times 64 all ⟨by omega, by omega⟩ hpB
   have t5 := ref_times (timesI 64 all) c (timesI_B ⟨by omega, by omega⟩ hpB) hc
   by_cases h6 : k = 6 ∨ k = 7 ∨ k = 10
   ·rw [if_pos h6]
    have hP := ref_capped (1 + timesI all c)
    have hb := timesI_B hpB hc
    unfold cB at *
    repeat' (first | (refine xS 6 4 ?_; refine AL.d (AOp.call rfl rfl hpV) ?_; refine xN 1 ?_) | refine AW.go ?_ | fail)
    rcases h6 with rfl | rfl | rfl
    ·repeat' (first | refine AW.re 7 2 ?_ | refine AW.re 8 2 ?_ | (refine xS 11 2 ?_; refine AL.d (AOp.call rfl rfl t1) ?_; refine xN 1 ?_) | (refine xS 18 1 ?_; refine AL.d AOp.ad ?_; refine AL.d (AOp.call rfl rfl hP) ?_; refine xN 1 ?_) | refine AW.jt ?_ | fail)
     exact AW.retv rfl ⟨rfl, rfl⟩
    ·repeat' (first | refine AW.re 7 2 ?_ | refine AW.re 8 2 ?_ | refine AW.re 9 2 ?_ | (refine xS 11 2 ?_; refine AL.d (AOp.call rfl rfl t1) ?_; refine xN 1 ?_) | (refine xS 18 1 ?_; refine AL.d AOp.ad ?_; refine AL.d (AOp.call rfl rfl hP) ?_; refine xN 1 ?_) | refine AW.jt ?_ | refine AW.jf ?_ | fail)
     exact AW.retv rfl ⟨rfl, rfl⟩
    ·repeat' (first | refine AW.re 7 2 ?_ | refine AW.re 8 2 ?_ | refine AW.re 9 2 ?_ | refine AW.re 10 2 ?_ | (refine xS 11 2 ?_; refine AL.d (AOp.call rfl rfl t1) ?_; refine xN 1 ?_) | (refine xS 18 1 ?_; refine AL.d AOp.ad ?_; refine AL.d (AOp.call rfl rfl hP) ?_; refine xN 1 ?_) | refine AW.jt ?_ | refine AW.jf ?_ | fail)
     exact AW.retv rfl ⟨rfl, rfl⟩
   ·rw [if_neg h6]
    by_cases h8 : k = 8
    ·subst h8
     rw [if_pos rfl]
     have hP := ref_capped (1 + timesI (timesI all all) c)
     have hb := timesI_B (timesI_B hpB hpB) hc
     unfold cB at *
     repeat' (first | (refine xS 6 4 ?_; refine AL.d (AOp.call rfl rfl hpV) ?_; refine xN 1 ?_) | refine AW.go ?_ | fail)
     repeat' (first | refine AW.re 7 2 ?_ | refine AW.re 8 2 ?_ | refine AW.re 9 2 ?_ | refine AW.re 10 2 ?_ | refine AW.re 12 2 ?_ | (refine xS 13 2 ?_; refine AL.d (AOp.call rfl rfl t2) ?_; refine AL.es 1 ?_; refine AL.d (AOp.call rfl rfl t3) ?_; refine xN 1 ?_) | (refine xS 18 1 ?_; refine AL.d AOp.ad ?_; refine AL.d (AOp.call rfl rfl hP) ?_; refine xN 1 ?_) | refine AW.jt ?_ | refine AW.jf ?_ | fail)
     exact AW.retv rfl ⟨rfl, rfl⟩
    ·rw [if_neg h8]
     by_cases h9 : k = 9
     ·subst h9
      rw [if_pos rfl]
      have hP := ref_capped (1 + timesI (timesI 64 all) c)
      have hb := timesI_B (timesI_B (a := 64) ⟨by omega, by omega⟩ hpB) hc
      unfold cB at *
      repeat' (first | (refine xS 6 4 ?_; refine AL.d (AOp.call rfl rfl hpV) ?_; refine xN 1 ?_) | refine AW.go ?_ | fail)
      repeat' (first | refine AW.re 7 2 ?_ | refine AW.re 8 2 ?_ | refine AW.re 9 2 ?_ | refine AW.re 10 2 ?_ | refine AW.re 12 2 ?_ | refine AW.re 14 2 ?_ | (refine xS 15 1 ?_; refine AL.d (AOp.call rfl rfl t4) ?_; refine AL.es 1 ?_; refine AL.d (AOp.call rfl rfl t5) ?_; refine xN 1 ?_) | (refine xS 18 1 ?_; refine AL.d AOp.ad ?_; refine AL.d (AOp.call rfl rfl hP) ?_; refine xN 1 ?_) | refine AW.jt ?_ | refine AW.jf ?_ | fail)
      exact AW.retv rfl ⟨rfl, rfl⟩
     ·rw [if_neg h9]
      by_cases h11 : k = 11
      ·subst h11
       rw [if_pos rfl]
       have hm : (((min (powI N ar.toNat 1) 50).toNat : Nat) : Int) = min (powI N ar.toNat 1) 50 := by have := hpB2.1; omega
       have hp2 := ref_power03 2 ⟨by omega, by omega⟩ (min (powI N ar.toNat 1) 50).toNat (by omega)
       have hB2 : cB (powI 2 (min (powI N ar.toNat 1) 50).toNat 1) := powI_B ⟨by omega, by omega⟩ _ _ ⟨by omega, by omega⟩
       rw [hm] at hp2
       generalize powI 2 (min (powI N ar.toNat 1) 50).toNat 1 = pw at *
       have t6 := ref_times pw c hB2 hc
       have hP := ref_capped (1 + timesI pw c)
       have hb := timesI_B hB2 hc
       unfold cB at *
       repeat' (first | (refine xS 6 4 ?_; refine AL.d (AOp.call rfl rfl hpV) ?_; refine xN 1 ?_) | refine AW.go ?_ | fail)
       repeat' (first | refine AW.re 7 2 ?_ | refine AW.re 8 2 ?_ | refine AW.re 9 2 ?_ | refine AW.re 10 2 ?_ | refine AW.re 12 2 ?_ | refine AW.re 14 2 ?_ | refine AW.re 16 2 ?_ | (refine xS 17 3 ?_; refine AL.d (AOp.call rfl rfl hpA) ?_; refine AL.d (AOp.min2 rfl rfl) ?_; refine AL.d (AOp.call rfl rfl hp2) ?_; refine AL.es 1 ?_; refine AL.d (AOp.call rfl rfl t6) ?_; refine xN 1 ?_) | (refine xS 18 1 ?_; refine AL.d AOp.ad ?_; refine AL.d (AOp.call rfl rfl hP) ?_; refine xN 1 ?_) | refine AW.jt ?_ | refine AW.jf ?_ | fail)
       exact AW.retv rfl ⟨rfl, rfl⟩
      ·rw [if_neg h11]
       have hP := ref_capped (1 + c)
       unfold cB at *
       repeat' (first | (refine xS 6 4 ?_; refine AL.d (AOp.call rfl rfl hpV) ?_; refine xN 1 ?_) | refine AW.go ?_ | fail)
       repeat' (first | refine AW.re 7 2 ?_ | refine AW.re 8 2 ?_ | refine AW.re 9 2 ?_ | refine AW.re 10 2 ?_ | refine AW.re 12 2 ?_ | refine AW.re 14 2 ?_ | refine AW.re 16 2 ?_ | (refine xS 18 1 ?_; refine AL.d AOp.ad ?_; refine AL.d (AOp.call rfl rfl hP) ?_; refine xN 1 ?_) | refine AW.jj (fun hb => ?_) (fun hb => ?_) | fail)
       all_goals try (exfalso; simp only [dT, dF, beq_iff_eq, beq_eq_false_iff_ne, ne_eq] at *; omega)
       exact AW.retv rfl ⟨rfl, rfl⟩
theorem ppow_gt {N : Nat} (hN : 1 ≤ N) (k : Nat) : decide (ppow N k 1 > 4096) = decide (4096 < N ^ k) := by
 have h := ppow_val hN k 1 (Nat.le_refl _)
 rw [Nat.one_mul] at h
 rw [decide_eq_decide]
 constructor
 ·intro h1
  by_cases h2 : N ^ k ≤ 4096
  ·have h3 : ppow N k 1 = (N ^ k : Nat) := h.1 h2
   omega
  ·omega
 ·intro h1
  by_cases h2 : ppow N k 1 ≤ 4096
  ·have := h.2.1 h2; omega
  ·omega
theorem ppow_gt16 {N : Nat} (hN : 1 ≤ N) (k : Nat) : decide (ppow N k 1 > 16) = decide (16 < N ^ k) := by
 have h := ppow_val hN k 1 (Nat.le_refl _)
 rw [Nat.one_mul] at h
 rw [decide_eq_decide]
 by_cases h2 : N ^ k ≤ 4096
 ·have h3 : ppow N k 1 = (N ^ k : Nat) := h.1 h2
  rw [h3]; omega
 ·by_cases h4 : ppow N k 1 ≤ 4096
  ·have := h.2.1 h4; omega
  ·omega
theorem ref_Fits03 (N : Nat) (hN : 1 ≤ N ∧ N ≤ 64) : ∀ (d : Nat) (f : GFml), ndF f ≤ d → f.Ok → shsF f = true → ndF f ≤ 100000 → Tri Tryz.prog 112 [f.st, .int .i64 N] [] (D (.bool (smF N f)) []) := by
 intro d
 induction d with
 | zero => intro f hD; have := ndF_eq f; omega
 | succ d ih =>
  intro f hD hok hsh hnd
  have hnd' := ndF_eq f
  have hsp : shapedP f = true := by rw [shsF_eq, bA] at hsh; exact hsh.2
  have hvl := shaped_vars hsp
  have har := shaped_ar hsp
  obtain ⟨hko⟩ := hok
  rename_i hko1 hko2
  have hkx : ∀ x ∈ f.Kids, x.Ok ∧ shsF x = true ∧ ndF x ≤ d ∧ ndF x ≤ 100000 := fun x hx => by
   have := ndFs_mem hx
   exact ⟨hko2 x hx, shsFs_mem (shsF_kids hsh) hx, by omega, by omega⟩
  have hkl := ndFs_len f.Kids
  have hp1 := ref_Pow N f.Vars.length (by omega) (by omega)
  have hp2 := ref_Pow N (f.Vars.length / 2 : Nat) (by omega) (by omega)
  have hp3 := ref_Pow N f.Arity (by omega) (by omega)
  have g1 := ppow_gt hN.1 f.Vars.length
  have g2 := ppow_gt hN.1 (f.Vars.length / 2)
  have g3 := ppow_gt16 hN.1 f.Arity.toNat
  obtain ⟨k, ar, nm, vars, args, kids⟩ := f
  simp only [Int.toNat_natCast] at hkx hkl hnd' hvl har hp1 hp2 hp3 g1 g2 g3
  have hvlen : ((vars.map AV.str).length : Int) = vars.length := by simp
  have hv2 : ((vars.length / 2 : Nat) : Int) = ((vars.map AV.str).length / 2 : Nat) := by rw [lM]
  rw [← hvlen] at hp1
  rw [hv2] at hp2
  rw [smF]
  generalize ppow N vars.length 1 = p1 at *
  generalize ppow N (vars.length / 2) 1 = p2 at *
  generalize ppow N ar.toNat 1 = p3 at *
  generalize N ^ vars.length = q1 at *
  generalize N ^ (vars.length / 2) = q2 at *
  generalize N ^ ar.toNat = q3 at *
  rw [← g1, ← g2, ← g3]
  refine Tri.enter 48 Tryz.func112 rfl rfl rfl rfl fun Fr w0 => ?_
  repeat' (first | (refine AW.r 0 ?_; refine AL.d (AOp.box_ro rfl rfl) ?_; refine xN 1 ?_) | fail)
  refine AW.seq ?_
  refine AW.cut (fun af h => af = [(1, .int .i64 N), (2, .at (⟨k, ar, nm, vars, args, kids⟩ : GFml).st)] ∧ h = [] ∧ (!((k == 8 || k == 9) && decide (p1 > 4096)) && !(k == 10 && decide (p2 > 4096)) && !(k == 11 && decide (p3 > 16))) = true) ?_ ?_
  ·rcases (by omega : k = 8 ∨ k = 9 ∨ k = 10 ∨ k = 11 ∨ ¬ (k = 8 ∨ k = 9 ∨ k = 10 ∨ k = 11)) with e | e | e | e | e
   ·subst e
    repeat' (first | refine AW.re 1 2 ?_ | refine AW.re 2 2 ?_ | (refine xS 4 4 ?_; refine AL.d (AOp.call rfl rfl hp1) ?_; refine xN 1 ?_) | refine AW.re 5 1 ?_ | refine AW.jt ?_ | refine AW.jj (fun hb => ?_) (fun hb => ?_) | refine AW.go ?_ | fail)
    ·refine AW.retv rfl ⟨retB ?_, rfl⟩
     rw [hb]; simp
    ·repeat' (first | fail)
     refine AW.meet [1, 2] ⟨rfl, rfl, ?_⟩
     rw [hb]; simp
   ·subst e
    repeat' (first | refine AW.re 1 2 ?_ | refine AW.re 2 2 ?_ | refine AW.re 3 2 ?_ | (refine xS 4 4 ?_; refine AL.d (AOp.call rfl rfl hp1) ?_; refine xN 1 ?_) | refine AW.re 5 1 ?_ | refine AW.jt ?_ | refine AW.jf ?_ | refine AW.jj (fun hb => ?_) (fun hb => ?_) | refine AW.go ?_ | fail)
    ·refine AW.retv rfl ⟨retB ?_, rfl⟩
     rw [hb]; simp
    ·repeat' (first | fail)
     refine AW.meet [1, 2] ⟨rfl, rfl, ?_⟩
     rw [hb]; simp
   ·subst e
    repeat' (first | refine AW.re 1 2 ?_ | refine AW.re 2 2 ?_ | refine AW.re 3 2 ?_ | refine AW.re 6 2 ?_ | (refine xS 7 4 ?_; refine AL.d (AOp.quo2 (m := (vars.map AV.str).length) rfl rfl (by rw [lM]; omega)) ?_ <;> refine AL.d (AOp.call rfl rfl hp2) ?_ <;> refine AL.es 1 ?_ <;> refine AL.nil ?_) | refine AW.re 8 1 ?_ | refine AW.jt ?_ | refine AW.jf ?_ | refine AW.jj (fun hb => ?_) (fun hb => ?_) | refine AW.go ?_ | fail)
    ·refine AW.retv rfl ⟨retB ?_, rfl⟩
     rw [hb]; simp
    ·repeat' (first | fail)
     refine AW.meet [1, 2] ⟨rfl, rfl, ?_⟩
     rw [hb]; simp
   ·subst e
    repeat' (first | refine AW.re 1 2 ?_ | refine AW.re 2 2 ?_ | refine AW.re 3 2 ?_ | refine AW.re 6 2 ?_ | refine AW.re 9 2 ?_ | (refine xS 10 3 ?_; refine AL.d (AOp.call rfl rfl hp3) ?_; refine xN 1 ?_) | refine AW.re 11 1 ?_ | refine AW.jt ?_ | refine AW.jf ?_ | refine AW.jj (fun hb => ?_) (fun hb => ?_) | refine AW.go ?_ | fail)
    ·refine AW.retv rfl ⟨retB ?_, rfl⟩
     rw [hb]; simp
    ·repeat' (first | fail)
     refine AW.meet [1, 2] ⟨rfl, rfl, ?_⟩
     rw [hb]; simp
   ·repeat' (first | refine AW.re 1 2 ?_ | refine AW.re 2 2 ?_ | refine AW.re 3 2 ?_ | refine AW.re 6 2 ?_ | refine AW.re 9 2 ?_ | refine AW.jj (fun hb => ?_) (fun hb => ?_) | refine AW.go ?_ | fail)
    all_goals try (exfalso; simp only [dT, dF, beq_iff_eq, beq_eq_false_iff_ne, ne_eq] at *; omega)
    repeat' (first | fail)
    refine AW.meet [1, 2] ⟨rfl, rfl, ?_⟩
    simp only [not_or] at e
    obtain ⟨e1, e2, e3, e4⟩ := e
    rw [beq_false_of_ne e1, beq_false_of_ne e2, beq_false_of_ne e3, beq_false_of_ne e4]; rfl
  rintro _ _ ⟨rfl, rfl, hh⟩
  rw [hh, Bool.true_and]
  clear hh
  repeat' (first | refine AW.re 12 1 ?_ | refine AW.go ?_ | fail)
  refine AW.prune [1, 2, 5] (AW.loop (fun mz af h => ∃ (i : Nat), i ≤ kids.length ∧ mz = kids.length - i ∧ af = [(1, .int .i64 N), (2, .at (⟨k, ar, nm, vars, args, kids⟩ : GFml).st), (5, .int .i64 i)] ∧ h = [] ∧ smFs N kids = smFs N (kids.drop i)) kids.length ⟨0, Nat.zero_le _, rfl, rfl, rfl, rfl⟩ ?_)
  rintro mz af h ⟨i, hi, rfl, rfl, rfl, he⟩
  refine AW.seq ?_
  by_cases hlt : i < kids.length
  ·obtain ⟨x, hx⟩ := get_lt hlt
   have hx' : (kids.map GFml.av)[((i : Nat) : Int).toNat]? = some x.st := by rw [← GFml.av_eq]; exact map_get hx
   obtain ⟨q1, q2, q3, q4⟩ := hkx x (lG hx)
   have hC := ih x q3 q1 q2 q4
   rw [drop_cons hx, smFs] at he
   generalize smF N x = v at *
   cases v with
   | false =>
    repeat' (first | refine AW.re 13 5 ?_ | (refine xS 15 3 ?_; refine AL.d (iX hx') ?_; refine AL.es 2 ?_; refine AL.d (AOp.call rfl rfl hC) ?_; refine xN 1 ?_) | refine AW.re 16 1 ?_ | refine AW.jt ?_ | refine AW.jj (fun hb => ?_) (fun hb => ?_) | refine AW.go ?_ | fail)
    all_goals try (exfalso; simp only [dT, dF, lM] at *; omega)
    exact AW.retv rfl ⟨by rw [he]; rfl, rfl⟩
   | true =>
    repeat' (first | refine AW.re 13 5 ?_ | (refine xS 15 3 ?_; refine AL.d (iX hx') ?_; refine AL.es 2 ?_; refine AL.d (AOp.call rfl rfl hC) ?_; refine xN 1 ?_) | (refine xS 14 1 ?_; refine AL.d AOp.ad ?_; refine xN 1 ?_) | refine AW.jf ?_ | refine AW.jj (fun hb => ?_) (fun hb => ?_) | refine AW.go ?_ | fail)
    all_goals try (exfalso; simp only [dT, dF, lM] at *; omega)
    refine AW.again_keep (kids.length - (i + 1)) [1, 2, 5] (by omega) ⟨i + 1, hlt, rfl, rfl, rfl, ?_⟩
    rw [he]; rfl
  ·rw [List.drop_eq_nil_of_le (by omega), smFs] at he
   repeat' (first | refine AW.re 13 5 ?_ | refine AW.re 17 1 ?_ | refine AW.jj (fun hb => ?_) (fun hb => ?_) | refine AW.go ?_ | fail)
   all_goals try (exfalso; simp only [dT, dF, lM] at *; omega)
   exact AW.retv rfl ⟨by rw [he]; rfl, rfl⟩
theorem ref_Size (N : Nat) (hN : 1 ≤ N ∧ N ≤ 64) (f : GFml) (hok : f.Ok) (hsh : shsF f = true) (hnd : ndF f ≤ 100000) : Tri Tryz.prog 65 [f.st, .int .i64 N] [] (D (.int .i64 (if smF N f = true ∧ costF N f < 1099511627776 then 0 else 5)) []) := by
 have hF := ref_Fits03 N hN _ f (Nat.le_refl _) hok hsh hnd
 have hC := ref_Cost N ⟨by omega, by omega⟩ _ f (Nat.le_refl _) hok hsh hnd
 generalize smF N f = b at *
 generalize costF N f = c at *
 cases b with
 | false =>
  refine Tri.enter 15 Tryz.func65 rfl rfl rfl rfl fun Fr w0 => ?_
  repeat' (first | (refine AW.r 0 ?_; refine AL.d (AOp.box_ro rfl rfl) ?_; refine xN 1 ?_) | (refine xS 1 2 ?_; refine AL.d (AOp.call rfl rfl hF) ?_; refine AL.es 2 ?_; refine AL.es 2 ?_; refine AL.gs ?_; refine xN 2 ?_) | refine AW.re 2 1 ?_ | refine AW.jt ?_ | fail)
  all_goals try (exfalso; simp only [dT, dF, lM] at *; omega)
  exact AW.retv rfl ⟨rfl, rfl⟩
 | true =>
  refine Tri.enter 15 Tryz.func65 rfl rfl rfl rfl fun Fr w0 => ?_
  repeat' (first | (refine AW.r 0 ?_; refine AL.d (AOp.box_ro rfl rfl) ?_; refine xN 1 ?_) | (refine xS 1 2 ?_; refine AL.d (AOp.call rfl rfl hF) ?_; refine AL.es 2 ?_; refine AL.es 2 ?_; ((refine AL.gd ?_; (refine AL.d (AOp.call rfl rfl hC) ?_))) <;> refine AL.es 2 ?_ <;> refine AL.nil ?_) | refine AW.re 2 1 ?_ | refine AW.re 3 1 ?_ | refine AW.jj (fun hb => ?_) (fun hb => ?_) | fail)
  ·refine AW.retv rfl ⟨?_, rfl⟩
   rw [if_neg (by simp only [dT] at hb; omega)]; rfl
  ·refine AW.retv rfl ⟨?_, rfl⟩
   rw [if_pos (by simp only [dF] at hb; exact ⟨rfl, by omega⟩)]; rfl
def addN : List ByteArray → List ByteArray → List ByteArray
 | out, [] => out
 | out, x :: l => addN (bif has out x then out else out ++ [x]) l
theorem law_free (f : GFml) (hok : f.Ok) (hsh : shsF f = true) (hnd : ndF f ≤ 20000) (more : List ByteArray) (hm : more.length ≤ 1000) : Tri Tryz.prog 23 [f.st, strs more] [] (D (strs (addN (frF f) more)) []) := by
 have hfl : (frF f).length ≤ 1000000 := by have h1 := frF_len f; have h2 := agF_len f hsh; omega
 have hF := ref_Free _ f (Nat.le_refl _) hok (by have := agF_len f hsh; omega)
 generalize frF f = FF at *
 have hz : ∀ y ∈ FF.map AV.str, y.size = 1 := all_map fun _ => rfl
 refine Tri.enter 32 Tryz.func23 rfl rfl rfl rfl fun Fr w0 => ?_
 repeat' (first | (refine AW.r 0 ?_; refine AL.d (AOp.box_ro rfl rfl) ?_; refine xN 1 ?_) | refine AW.go ?_ | fail)
 repeat' (first | (refine AW.r 1 ?_; refine AL.lit_own (e := 9) (sz := 1) (by kernel_rfl) rfl rfl rfl P_nil (by decide) rfl fun b0 => ?_; refine AL.es 1 ?_; refine AL.d (AOp.call rfl rfl (hF.pure _)) ?_; refine AL.append (i := 0) (xs := []) (ys := FF.map AV.str) (e := 9) (sz := 1) (bytes := 16) rfl rfl rfl rfl (by kernel_rfl) (by kernel_rfl) P_nil hz (ok_map fun _ => rfl) (by simp only [List.length_nil, lM]; omega) (by simp only [List.length_nil, lM]; omega) rfl fun b1 c1 => ?_ <;> refine AL.es 1 ?_ <;> refine AL.nil ?_) | refine AW.go ?_ | fail)
 repeat' (first | refine AW.re 2 1 ?_ | refine AW.go ?_ | fail)
 refine AW.prune [1, 5, 6] (AW.loop (fun mz af h => ∃ (i : Nat) (out : List ByteArray) (tb : Option Nat) (tc : Nat), i ≤ more.length ∧ mz = more.length - i ∧ af = [(1, strs more), (5, .slt (out.map AV.str) tb tc), (6, .int .i64 i)] ∧ h = [.tail tb (out.map AV.str).length tc 1] ∧ (addN FF more = addN out (more.drop i) ∧ out.length ≤ FF.length + i)) more.length ⟨0, FF, b1, c1, Nat.zero_le _, rfl, rfl, rfl, ⟨rfl, Nat.le_refl _⟩⟩ ?_)
 rintro mz af h ⟨i, out, tb, tc, hi, rfl, rfl, rfl, he⟩
 refine AW.seq ?_
 by_cases hlt : i < more.length
 all_goals obtain ⟨he, hol⟩ := he
 ·obtain ⟨x, hx⟩ := get_lt hlt
  have hx' : (more.map AV.str)[((i : Nat) : Int).toNat]? = some (.str x) := map_get hx
  have hA : Tri Tryz.prog 17 [.sl (out.map AV.str), .str x] [] (D (.bool (has out x)) []) := Among_has out (by omega) x
  rw [drop_cons hx, addN] at he
  cases hb : has out x with
  | true =>
   rw [hb] at hA he
   repeat' (first | refine AW.re 3 4 ?_ | (refine xS 5 3 ?_; refine AL.d (iX hx') ?_; refine AL.d AOp.la ?_; refine AL.d (AOp.call_slt rfl rfl rfl (hA.pure _)) ?_; refine xN 1 ?_) | (refine xS 4 1 ?_; refine AL.d AOp.ad ?_; refine xN 1 ?_) | refine AW.jf ?_ | refine AW.jj (fun hb => ?_) (fun hb => ?_) | refine AW.go ?_ | fail)
   all_goals try (exfalso; simp only [dT, dF, lM] at *; omega)
   exact AW.again_keep (more.length - (i + 1)) [1, 5, 6] (by omega) ⟨i + 1, out, tb, tc, hlt, rfl, rfl, rfl, he, by omega⟩
  | false =>
   rw [hb] at hA he
   have hmm : (out ++ [x]).map AV.str = out.map AV.str ++ [.str x] := by simp
   repeat' (first | refine AW.re 3 4 ?_ | (refine xS 5 3 ?_; refine AL.d (iX hx') ?_; refine AL.d AOp.la ?_; refine AL.d (AOp.call_slt rfl rfl rfl (hA.pure _)) ?_; refine xN 1 ?_) | refine AW.jt ?_ | refine AW.jj (fun hb => ?_) (fun hb => ?_) | refine AW.go ?_ | fail)
   all_goals try (exfalso; simp only [dT, dF, lM] at *; omega)
   repeat' (first | (refine xS 6 3 ?_; refine AL.d (iX hx') ?_; refine AL.d AOp.la ?_; refine AL.d (AOp.lit (e := 9) (sz := 1) (by kernel_rfl) rfl rfl rfl (P_one rfl) (by decide)) ?_; refine AL.append (i := 0) (e := 9) (sz := 1) (bytes := 16) rfl rfl rfl rfl (by kernel_rfl) (by kernel_rfl) (by repeat' (exact P_map fun _ => rfl)) (by repeat' (exact P_one rfl)) (ok_all (by repeat' (exact P_one rfl))) (by (try simp only [lA, lM, List.length_take, List.length_drop, List.length_cons, List.length_nil, List.length_replicate]); omega) (by (try simp only [lA, lM, List.length_take, List.length_drop, List.length_cons, List.length_nil, List.length_replicate]); omega) rfl fun b' c' => ?_ <;> refine AL.es 1 ?_ <;> refine AL.nil ?_) | (refine xS 4 1 ?_; refine AL.d AOp.ad ?_; refine xN 1 ?_) | fail)
   refine AW.again_keep (more.length - (i + 1)) [1, 5, 6] (by omega) ⟨i + 1, out ++ [x], b', c', hlt, rfl, by rw [hmm]; rfl, by rw [hmm]; rfl, he, by simp; omega⟩
 ·rw [List.drop_eq_nil_of_le (by omega), addN] at he
  repeat' (first | refine AW.re 3 4 ?_ | refine AW.jj (fun hb => ?_) (fun hb => ?_) | refine AW.go ?_ | fail)
  all_goals try (exfalso; simp only [dT, dF, lM] at *; omega)
  refine AW.as_sl 5 rfl ?_
  refine AW.drop (List.nil_sublist _) ?_
  repeat' (first | refine AW.re 7 2 ?_ | fail)
  exact AW.retv rfl ⟨by rw [he]; rfl, rfl⟩
theorem ref_Vars (f : GFml) (hok : f.Ok) (hsh : shsF f = true) (hnd : ndF f ≤ 20000) (vars : List ByteArray) (hv : vars.length ≤ 1000000) : Tri Tryz.prog 111 [f.st, strs vars] [] (D (.int .i64 (if namesG false true [] vars = true ∧ ((frF f).all fun v => has vars v) = true then 0 else 2)) []) := by
 have hfl : (frF f).length ≤ 1000000 := by have h1 := frF_len f; have h2 := agF_len f hsh; omega
 have hF := ref_Free _ f (Nat.le_refl _) hok (by have := agF_len f hsh; omega)
 generalize frF f = FF at *
 have hD := ref_Different vars (by omega)
 have hA := fun v => Among_has vars (by omega) v
 generalize namesG false true [] vars = df at *
 cases df with
 | false =>
  refine Tri.enter 25 Tryz.func111 rfl rfl rfl rfl fun Fr w0 => ?_
  repeat' (first | (refine AW.r 0 ?_; refine AL.d (AOp.box_ro rfl rfl) ?_; refine xN 1 ?_) | (refine xS 1 1 ?_; refine AL.d (AOp.call rfl rfl hF) ?_; refine xN 1 ?_) | (refine xS 2 1 ?_; refine AL.d (AOp.call rfl rfl hD) ?_; refine xN 1 ?_) | refine AW.re 3 1 ?_ | refine AW.jt ?_ | fail)
  all_goals try (exfalso; simp only [dT, dF, lM] at *; omega)
  exact AW.retv rfl ⟨rfl, rfl⟩
 | true =>
  refine Tri.enter 25 Tryz.func111 rfl rfl rfl rfl fun Fr w0 => ?_
  repeat' (first | (refine AW.r 0 ?_; refine AL.d (AOp.box_ro rfl rfl) ?_; refine xN 1 ?_) | (refine xS 1 1 ?_; refine AL.d (AOp.call rfl rfl hF) ?_; refine xN 1 ?_) | (refine xS 2 1 ?_; refine AL.d (AOp.call rfl rfl hD) ?_; refine xN 1 ?_) | refine AW.re 4 1 ?_ | refine AW.jf ?_ | refine AW.go ?_ | fail)
  all_goals try (exfalso; simp only [dT, dF, lM] at *; omega)
  refine AW.prune [1, 5, 6] (AW.loop (fun mz af h => ∃ (i : Nat), i ≤ FF.length ∧ mz = FF.length - i ∧ af = [(1, strs vars), (5, strs FF), (6, .int .i64 i)] ∧ h = [] ∧ (FF.all fun v => has vars v) = ((FF.drop i).all fun v => has vars v)) FF.length ⟨0, Nat.zero_le _, rfl, rfl, rfl, rfl⟩ ?_)
  rintro mz af h ⟨i, hi, rfl, rfl, rfl, he⟩
  refine AW.seq ?_
  by_cases hlt : i < FF.length
  ·obtain ⟨x, hx⟩ := get_lt hlt
   have hx' : (FF.map AV.str)[((i : Nat) : Int).toNat]? = some (.str x) := map_get hx
   have hAx := hA x
   rw [drop_cons hx, List.all_cons] at he
   generalize has vars x = b at *
   cases b with
   | false =>
    repeat' (first | refine AW.re 5 4 ?_ | (refine xS 7 3 ?_; refine AL.d (iX hx') ?_; refine AL.es 1 ?_; refine AL.d (AOp.call rfl rfl hAx) ?_; refine xN 1 ?_) | refine AW.re 8 1 ?_ | refine AW.jt ?_ | refine AW.jj (fun hb => ?_) (fun hb => ?_) | refine AW.go ?_ | fail)
    all_goals try (exfalso; simp only [dT, dF, lM] at *; omega)
    refine AW.retv rfl ⟨?_, rfl⟩
    rw [he, if_neg (by simp)]; rfl
   | true =>
    repeat' (first | refine AW.re 5 4 ?_ | (refine xS 7 3 ?_; refine AL.d (iX hx') ?_; refine AL.es 1 ?_; refine AL.d (AOp.call rfl rfl hAx) ?_; refine xN 1 ?_) | (refine xS 6 1 ?_; refine AL.d AOp.ad ?_; refine xN 1 ?_) | refine AW.jf ?_ | refine AW.jj (fun hb => ?_) (fun hb => ?_) | refine AW.go ?_ | fail)
    all_goals try (exfalso; simp only [dT, dF, lM] at *; omega)
    refine AW.again_keep (FF.length - (i + 1)) [1, 5, 6] (by omega) ⟨i + 1, hlt, rfl, rfl, rfl, ?_⟩
    rw [he]; rfl
  ·rw [List.drop_eq_nil_of_le (by omega)] at he
   repeat' (first | refine AW.re 5 4 ?_ | refine AW.re 9 1 ?_ | refine AW.jj (fun hb => ?_) (fun hb => ?_) | refine AW.go ?_ | fail)
   all_goals try (exfalso; simp only [dT, dF, lM] at *; omega)
   refine AW.retv rfl ⟨?_, rfl⟩
   rw [he, if_pos ⟨rfl, rfl⟩]; rfl
def chkI (f : GFml) (s : GStr) (vars : List ByteArray) : Int := if fitsB s (symL (ocF f [] [])) = false then 4 else if namesG false true [] vars = true ∧ ((frF f).all fun v => has vars v) = true then 0 else 2
theorem ref_Check (f : GFml) (s : GStr) (hok : f.Ok) (hs : s.Ok) (hv : validF f = true) (hsv : validStr s = true) (hnd : ndF f ≤ 20000) (vars : List ByteArray) (hvl : vars.length ≤ 1000000) : Tri Tryz.prog 64 [f.st, s.av, strs vars] [] (D (.int .i64 (chkI f s vars)) []) := by
 have hsh : shsF f = true := by unfold validF at hv; simp only [bA] at hv; exact hv.1.1.1.2
 have hV := ref_Valid f hok (by omega)
 have hVS := ref_ValidS s hs
 have hS := ref_Symbols f hok (by omega)
 have hsl : (symL (ocF f [] [])).length ≤ 40000 := by have h1 := symL_len (ocF f [] []); have h2 := ocF_len f [] []; simp at h2; omega
 have hFi := ref_Fits s hs (symL (ocF f [] [])) (by omega)
 have hVa := ref_Vars f hok hsh hnd vars hvl
 rw [hv] at hV
 rw [hsv] at hVS
 unfold chkI
 generalize (if namesG false true [] vars = true ∧ ((frF f).all fun v => has vars v) = true then (0 : Int) else 2) = va at *
 generalize symL (ocF f [] []) = SS at *
 generalize fitsB s SS = fb at *
 cases fb with
 | false =>
  refine Tri.enter 23 Tryz.func64 rfl rfl rfl rfl fun Fr w0 => ?_
  repeat' (first | (refine AW.r 0 ?_; refine AL.d (AOp.box_ro rfl rfl) ?_; refine AL.d (AOp.box_ro rfl rfl) ?_; refine xN 1 ?_) | (refine xS 1 1 ?_; refine AL.d (AOp.call rfl rfl hV) ?_; refine AL.es 2 ?_; refine AL.es 1 ?_; ((refine AL.gd ?_; (refine AL.d (AOp.call rfl rfl hVS) ?_))) <;> refine AL.es 2 ?_ <;> refine AL.nil ?_) | (refine AW.dq 3 ?_; refine AQ.es 2 ?_; refine AQ.p rfl (AOp.call rfl rfl hS) ?_; refine AQ.p rfl (AOp.call rfl rfl hFi) ?_; refine AQ.es 1 ?_; refine AQ.nil ?_) | refine AW.re 4 1 ?_ | refine AW.jt ?_ | refine AW.jf ?_ | fail)
  all_goals try (exfalso; simp only [dT, dF, lM] at *; omega)
  exact AW.retv rfl ⟨rfl, rfl⟩
 | true =>
  refine Tri.enter 23 Tryz.func64 rfl rfl rfl rfl fun Fr w0 => ?_
  repeat' (first | (refine AW.r 0 ?_; refine AL.d (AOp.box_ro rfl rfl) ?_; refine AL.d (AOp.box_ro rfl rfl) ?_; refine xN 1 ?_) | (refine xS 1 1 ?_; refine AL.d (AOp.call rfl rfl hV) ?_; refine AL.es 2 ?_; refine AL.es 1 ?_; ((refine AL.gd ?_; (refine AL.d (AOp.call rfl rfl hVS) ?_))) <;> refine AL.es 2 ?_ <;> refine AL.nil ?_) | (refine AW.dq 3 ?_; refine AQ.es 2 ?_; refine AQ.p rfl (AOp.call rfl rfl hS) ?_; refine AQ.p rfl (AOp.call rfl rfl hFi) ?_; refine AQ.es 1 ?_; refine AQ.nil ?_) | (refine xS 5 2 ?_; refine AL.d (AOp.call rfl rfl hVa) ?_; refine xN 1 ?_) | refine AW.jf ?_ | fail)
  all_goals try (exfalso; simp only [dT, dF, lM] at *; omega)
  exact AW.retv rfl ⟨rfl, rfl⟩
theorem rels_first {n : Int} {all : List GRel} : ∀ (l : List GRel) (i : Nat), relsGo n all i l = true → ∀ (j : Nat) r, l[j]? = some r → ∀ q ∈ all.take (i + j), q.Name ≠ r.Name
 | [], _, _, j, r, hj => by simp at hj
 | x :: l, i, h, j, r, hj => by
  rw [relsGo, bA, bA] at h
  intro q hq
  cases j with
  | zero =>
   obtain rfl : x = r := by simpa using hj
   have h2 := h.1.2
   rw [Bool.not_eq_true', List.any_eq_false] at h2
   simpa using h2 q hq
  | succ j => exact rels_first l (i + 1) h.2 j r (by simpa using hj) q (by rw [show i + 1 + j = i + (j + 1) by omega]; exact hq)
theorem find_uniq {s : GStr} (hv : validStr s = true) {r : GRel} (h : r ∈ s.Rels) : s.Rels.find? (fun q => decide (q.Name = r.Name)) = some r := by
 have hg : relsGo s.Size s.Rels 0 s.Rels = true := by unfold validStr at hv; simp only [bA] at hv; exact hv.2
 obtain ⟨j, hj⟩ := List.getElem?_of_mem h
 cases hf : s.Rels.find? (fun q => decide (q.Name = r.Name)) with
 | none => rw [List.find?_eq_none] at hf; exact absurd (by simp) (hf r h)
 | some q =>
  have hq : q.Name = r.Name := by simpa using List.find?_some hf
  obtain ⟨k, hk⟩ := List.getElem?_of_mem (List.mem_of_find?_eq_some hf)
  rcases Nat.lt_trichotomy k j with hlt | rfl | hlt
  ·exact absurd hq (rels_first _ 0 hg j r hj q (List.mem_iff_getElem?.2 ⟨k, by rw [List.getElem?_take, if_pos (by omega)]; exact hk⟩))
  ·rw [hk] at hj; exact hj
  ·exact absurd hq.symm (rels_first _ 0 hg k q hk r (List.mem_iff_getElem?.2 ⟨j, by rw [List.getElem?_take, if_pos (by omega)]; exact hj⟩))
theorem lkT_mem {α : Type} {s : ByteArray} {b : α} : ∀ {T : List (ByteArray × α)}, lkT T s = some b → (s, b) ∈ T
 | [], h => by cases h
 | p :: T, h => by
  rw [lkT] at h
  cases hr : lkT T s with
  | some x => rw [hr] at h; obtain rfl := Option.some.inj h; exact List.mem_cons_of_mem _ (lkT_mem hr)
  | none =>
   rw [hr] at h
   simp only at h
   split at h
   ·rename_i e; obtain rfl := Option.some.inj h; rw [← e]; exact List.mem_cons_self ..
   ·cases h
theorem pairG_in : ∀ (l pre : List GSym), pairG pre l = true → ∀ (i : Nat) x, l[i]? = some x → ∀ y ∈ pre ++ l.take i, y.Name = x.Name → y.Arity = x.Arity
 | [], pre, _, i, x, hi, y, hy, e => by simp at hi
 | z :: l, pre, h, i, x, hi, y, hy, e => by
  rw [pairG, bA] at h
  cases i with
  | zero =>
   obtain rfl : z = x := by simpa using hi
   have := List.all_eq_true.1 h.1 y (by simpa using hy)
   unfold clashB at this
   simpa [e] using this
  | succ i =>
   refine pairG_in l (pre ++ [z]) h.2 i x (by simpa using hi) y ?_ e
   simpa [List.append_assoc] using hy
theorem pairG_eq {l : List GSym} (h : pairG [] l = true) {x y : GSym} (hx : x ∈ l) (hy : y ∈ l) (e : x.Name = y.Name) : x.Arity = y.Arity := by
 obtain ⟨i, hi⟩ := List.getElem?_of_mem hx
 obtain ⟨j, hj⟩ := List.getElem?_of_mem hy
 rcases Nat.lt_trichotomy i j with hlt | rfl | hlt
 ·exact pairG_in l [] h j y hj x (by rw [List.nil_append]; exact List.mem_iff_getElem?.2 ⟨i, by rw [List.getElem?_take, if_pos hlt]; exact hi⟩) e
 ·rw [hi] at hj; rw [Option.some.inj hj]
 ·exact (pairG_in l [] h i x hi y (by rw [List.nil_append]; exact List.mem_iff_getElem?.2 ⟨j, by rw [List.getElem?_take, if_pos hlt]; exact hj⟩) e.symm).symm
theorem okF_str {N : Nat} {f : GFml} {s : GStr} (hv : validF f = true) (hs : SOk N s) (hsv : validStr s = true) (hf : fitsB s (symL (ocF f [] [])) = true) (hsm : smF N f = true) : okF N f (tl (strT N s)) := by
 unfold validF at hv
 simp only [bA] at hv
 suffices key : ∀ y ∈ ocF f [] [], ∀ c, lkT (tl (strT N s)) y.Name = some c → c = N ^ y.Arity.toNat ∧ c ≤ 4096 by
  have hL : LB_ N (tl (strT N s)) [] (fun y => ∀ c, lkT (tl (strT N s)) y.Name = some c → c = N ^ y.Arity.toNat ∧ c ≤ 4096) := by
   refine ⟨fun nm m h => (by cases h), fun nm _ y hy e c hc => ?_⟩
   exact hy c (by rw [e]; exact hc)
  exact okF_of N f [] (tl (strT N s)) _ hv.1.1.1.2 hv.1.1.2 hsm hL key
 intro y hy c hc
 have hm := lkT_mem hc
 unfold tl strT at hm
 rw [List.map_map, List.mem_map] at hm
 obtain ⟨r, hr, e⟩ := hm
 obtain ⟨e1, e2⟩ := Prod.mk.inj e
 have e1 : r.Name = y.Name := e1
 obtain ⟨z, hz, ez⟩ := symL_name hy
 have hfa := List.all_eq_true.1 hf z hz
 unfold fitA at hfa
 rw [ez, ← e1, find_uniq hsv hr] at hfa
 have ha : r.Arity = y.Arity := (of_decide_eq_true hfa).trans (pairG_eq hv.2 (symL_sub hz) hy ez)
 obtain ⟨k, hk, _, hk4, _⟩ := hs.rel r hr
 have hlen : (tabN N r.Tuples (falses (N ^ r.Arity.toNat))).length = N ^ r.Arity.toNat := by rw [tabN_len, falses_len]
 have e2 : (tabN N r.Tuples (falses (N ^ r.Arity.toNat))).length = c := e2
 rw [hlen] at e2
 rw [← e2, ← ha]
 exact ⟨rfl, by rw [hk, Int.toNat_natCast]; exact hk4⟩
theorem law_evaluated (M : Nat) (hM : 5001 < M) (f : GFml) (s : GStr) (vars : List ByteArray) (hok : f.Ok) (hs : s.Ok) (hv : validF f = true) (hnd : ndF f ≤ 1500) (hvl : vars.length ≤ 24) :
  Tri Tryz.prog 24 [f.st, s.av, strs vars] [] (fun x h => ∃ v b, x = .ret (.tup [v, .bool b]) ∧ h = [] ∧ (b = true → ∃ N, SOk N s ∧ N ^ vars.length ≤ 4096 ∧ v = .sl ((qryL N M f (strT N s) vars (N ^ vars.length)).map ints))) := by
 have hVS := ref_ValidS s hs
 have hvv := hv
 unfold validF at hvv
 simp only [bA] at hvv
 have hsh : shsF f = true := hvv.1.1.1.2
 have hg : grF f = true := hvv.1.2
 cases hsv : validStr s with
 | false =>
  rw [hsv] at hVS
  refine Tri.enter 58 Tryz.func24 rfl rfl rfl rfl fun Fr w0 => ?_
  repeat' (first | (refine AW.r 0 ?_; refine AL.d (AOp.box_ro rfl rfl) ?_; refine AL.d (AOp.box_ro rfl rfl) ?_; refine xN 2 ?_) | (refine AW.dq 1 ?_; refine AQ.es 1 ?_; refine AQ.p rfl (AOp.call rfl rfl hVS) ?_; refine AQ.es 2 ?_; refine AQ.es 4 ?_; refine AQ.k ?_; refine AQ.es 3 ?_; refine AQ.es 3 ?_; refine AQ.k ?_; refine AQ.es 3 ?_; refine AQ.es 3 ?_; refine AQ.k ?_; refine AQ.es 3 ?_; refine AQ.es 3 ?_; refine AQ.k ?_; refine AQ.es 4 ?_; refine AQ.k ?_; refine AQ.k ?_; refine AQ.es 2 ?_; refine AQ.nil ?_) | refine AW.re 2 2 ?_ | refine AW.jt ?_ | fail)
  all_goals try (exfalso; simp only [dT, dF, lM] at *; omega)
  exact AW.retv rfl ⟨_, false, rfl, rfl, fun h => by cases h⟩
 | true =>
  rw [hsv] at hVS
  obtain ⟨N, hS⟩ := SOk_of hsv
  have hCk := ref_Check f s hok hs hv hsv (by omega) vars (by omega)
  have hSz := ref_Size N ⟨hS.n1, hS.n2⟩ f hok hsh (by omega)
  have hCo := ref_Cost N ⟨by have := hS.n1; omega, by have := hS.n2; omega⟩ _ f (Nat.le_refl _) hok hsh (by omega)
  have hcB := costF_B (N := N) ⟨by have := hS.n1; omega, by have := hS.n2; omega⟩ f
  have hP := ref_Pow N vars.length (by have := hS.n1; have := hS.n2; omega) (by omega)
  have hpv := ppow_val hS.n1 vars.length 1 (Nat.le_refl _)
  rw [Nat.one_mul] at hpv
  have hQ := fun h1 h2 => ref_Query N M f s vars hM hs hS hok hsh hg hnd hvl h1 h2
  have hOk := okF_str (N := N) hv hS hsv
  have hsa : s.av = .st [.int .i64 N, .sl (s.Rels.map GRel.av)] := by unfold GStr.av; rw [hS.size]
  rw [hsa] at hVS hCk hQ ⊢
  have hvlen : ((vars.map AV.str).length : Int) = vars.length := by simp
  rw [← hvlen] at hP
  rw [hvlen, Int.toNat_natCast] at hP
  rw [← hvlen] at hP
  have hfit : chkI f s vars = 0 → fitsB s (symL (ocF f [] [])) = true := fun h => by
   unfold chkI at h
   cases hf : fitsB s (symL (ocF f [] [])) with
   | true => rfl
   | false => rw [if_pos hf] at h; cases h
  obtain ⟨c0, c1⟩ := hcB
  by_cases hp : ppow N vars.length 1 ≤ 4096
  ·have hp4 := hpv.2.1 hp
   have hp1 := hpv.2.2
   have hp1 : 1 ≤ ppow N vars.length 1 := hp1
   clear hpv
   generalize hL : ppow N vars.length 1 = p at *
   by_cases hc : chkI f s vars = 0
   ·have hOk := hOk (hfit hc)
    rw [hc] at hCk
    by_cases hz : smF N f = true ∧ costF N f < 1099511627776
    ·rw [if_pos hz] at hSz
     have hQ := hQ hp4 (hOk hz.1)
     generalize costF N f = cst at *
     have hm1 := Int.mul_le_mul c1 hp (by omega) (by omega)
     have hm0 := Int.mul_nonneg c0 (show 0 ≤ p by omega)
     by_cases hm : cst * p > 400000
     ·refine Tri.enter 58 Tryz.func24 rfl rfl rfl rfl fun Fr w0 => ?_
      repeat' (first | (refine AW.r 0 ?_; refine AL.d (AOp.box_ro rfl rfl) ?_; refine AL.d (AOp.box_ro rfl rfl) ?_; refine xN 2 ?_) | (refine AW.dq 1 ?_; refine AQ.es 1 ?_; refine AQ.p rfl (AOp.call rfl rfl hVS) ?_; refine AQ.es 2 ?_; refine AQ.es 4 ?_; refine AQ.gp rfl (AOp.call rfl rfl hP) ?_; refine AQ.es 3 ?_; ((refine AQ.x (fun hb => ?_) (fun hb => ?_) <;> refine AQ.es 3 ?_)) <;> (first | refine AQ.gp rfl (AOp.call rfl rfl hCk) ?_ | refine AQ.k ?_) <;> refine AQ.es 3 ?_ <;> (refine AQ.es 3 ?_) <;> (first | refine AQ.gp rfl (AOp.call rfl rfl hSz) ?_ | refine AQ.k ?_) <;> refine AQ.es 3 ?_ <;> (refine AQ.es 3 ?_) <;> (first | refine AQ.gp rfl (AOp.call rfl rfl hCo) ?_ | refine AQ.k ?_) <;> refine AQ.es 4 ?_ <;> (first | refine AQ.gp rfl (AOp.call rfl rfl hP) ?_ | refine AQ.k ?_) <;> (first | refine AQ.gp rfl (AOp.mul rfl rfl (by omega)) ?_ | refine AQ.k ?_) <;> refine AQ.es 2 ?_ <;> refine AQ.nil ?_) | refine AW.re 2 2 ?_ | refine AW.jt ?_ | refine AW.jj (fun hb => ?_) (fun hb => ?_) | refine AW.go ?_ | fail)
      all_goals try (exfalso; simp only [dT, dF] at *; omega)
      exact AW.retv rfl ⟨_, false, rfl, rfl, fun h => by cases h⟩
     ·refine Tri.enter 58 Tryz.func24 rfl rfl rfl rfl fun Fr w0 => ?_
      repeat' (first | (refine AW.r 0 ?_; refine AL.d (AOp.box_ro rfl rfl) ?_; refine AL.d (AOp.box_ro rfl rfl) ?_; refine xN 2 ?_) | (refine AW.dq 1 ?_; refine AQ.es 1 ?_; refine AQ.p rfl (AOp.call rfl rfl hVS) ?_; refine AQ.es 2 ?_; refine AQ.es 4 ?_; refine AQ.gp rfl (AOp.call rfl rfl hP) ?_; refine AQ.es 3 ?_; ((refine AQ.x (fun hb => ?_) (fun hb => ?_) <;> refine AQ.es 3 ?_)) <;> (first | refine AQ.gp rfl (AOp.call rfl rfl hCk) ?_ | refine AQ.k ?_) <;> refine AQ.es 3 ?_ <;> (refine AQ.es 3 ?_) <;> (first | refine AQ.gp rfl (AOp.call rfl rfl hSz) ?_ | refine AQ.k ?_) <;> refine AQ.es 3 ?_ <;> (refine AQ.es 3 ?_) <;> (first | refine AQ.gp rfl (AOp.call rfl rfl hCo) ?_ | refine AQ.k ?_) <;> refine AQ.es 4 ?_ <;> (first | refine AQ.gp rfl (AOp.call rfl rfl hP) ?_ | refine AQ.k ?_) <;> (first | refine AQ.gp rfl (AOp.mul rfl rfl (by omega)) ?_ | refine AQ.k ?_) <;> refine AQ.es 2 ?_ <;> refine AQ.nil ?_) | refine AW.re 2 2 ?_ | refine AW.jt ?_ | refine AW.jj (fun hb => ?_) (fun hb => ?_) | refine AW.go ?_ | fail)
      all_goals try (exfalso; simp only [dT, dF] at *; omega)
      repeat' (first | (refine xS 3 3 ?_; refine AL.callQ rfl rfl hQ rfl ?_ ?_; rotate_left; rintro _ _ ⟨_, e, _⟩; cases e; rintro _ _ ⟨lg, e, rfl⟩; injection e with e; subst e <;> refine AL.es 5 ?_ <;> refine AL.nil ?_) | refine AW.re 4 5 ?_ | fail)
      exact AW.retv rfl ⟨_, !lg, rfl, rfl, fun _ => ⟨N, hS, hp4, rfl⟩⟩
    ·rw [if_neg hz] at hSz
     refine Tri.enter 58 Tryz.func24 rfl rfl rfl rfl fun Fr w0 => ?_
     repeat' (first | (refine AW.r 0 ?_; refine AL.d (AOp.box_ro rfl rfl) ?_; refine AL.d (AOp.box_ro rfl rfl) ?_; refine xN 2 ?_) | (refine AW.dq 1 ?_; refine AQ.es 1 ?_; refine AQ.p rfl (AOp.call rfl rfl hVS) ?_; refine AQ.es 2 ?_; refine AQ.es 4 ?_; refine AQ.gp rfl (AOp.call rfl rfl hP) ?_; refine AQ.es 3 ?_; ((refine AQ.x (fun hb => ?_) (fun hb => ?_) <;> refine AQ.es 3 ?_)) <;> (first | refine AQ.gp rfl (AOp.call rfl rfl hCk) ?_ | refine AQ.k ?_) <;> refine AQ.es 3 ?_ <;> (refine AQ.es 3 ?_) <;> (first | refine AQ.gp rfl (AOp.call rfl rfl hSz) ?_ | refine AQ.k ?_) <;> refine AQ.es 3 ?_ <;> (refine AQ.es 3 ?_) <;> (refine AQ.k ?_) <;> refine AQ.es 4 ?_ <;> (refine AQ.k ?_) <;> (refine AQ.k ?_) <;> refine AQ.es 2 ?_ <;> refine AQ.nil ?_) | refine AW.re 2 2 ?_ | refine AW.jt ?_ | fail)
     all_goals try (exfalso; simp only [dT, dF] at *; omega)
     exact AW.retv rfl ⟨_, false, rfl, rfl, fun h => by cases h⟩
   ·generalize chkI f s vars = ck at *
    refine Tri.enter 58 Tryz.func24 rfl rfl rfl rfl fun Fr w0 => ?_
    repeat' (first | (refine AW.r 0 ?_; refine AL.d (AOp.box_ro rfl rfl) ?_; refine AL.d (AOp.box_ro rfl rfl) ?_; refine xN 2 ?_) | (refine AW.dq 1 ?_; refine AQ.es 1 ?_; refine AQ.p rfl (AOp.call rfl rfl hVS) ?_; refine AQ.es 2 ?_; refine AQ.es 4 ?_; refine AQ.gp rfl (AOp.call rfl rfl hP) ?_; refine AQ.es 3 ?_; ((refine AQ.x (fun hb => ?_) (fun hb => ?_) <;> refine AQ.es 3 ?_)) <;> (first | (exfalso; simp only [dT, dF, lM, bne_iff_ne, ne_eq, bne_eq_false_iff_eq, beq_iff_eq, beq_eq_false_iff_ne] at *; omega) | refine AQ.gp rfl (AOp.call rfl rfl hCk) ?_) <;> refine AQ.es 3 ?_ <;> ((refine AQ.x (fun hb => ?_) (fun hb => ?_) <;> refine AQ.es 3 ?_)) <;> (first | (exfalso; simp only [dT, dF, lM, bne_iff_ne, ne_eq, bne_eq_false_iff_eq, beq_iff_eq, beq_eq_false_iff_ne] at *; omega) | refine AQ.k ?_) <;> refine AQ.es 3 ?_ <;> (refine AQ.es 3 ?_) <;> (refine AQ.k ?_) <;> refine AQ.es 4 ?_ <;> (refine AQ.k ?_) <;> (refine AQ.k ?_) <;> refine AQ.es 2 ?_ <;> refine AQ.nil ?_) | refine AW.re 2 2 ?_ | refine AW.jt ?_ | fail)
    all_goals try (exfalso; simp only [dT, dF, bne_iff_ne, ne_eq, bne_eq_false_iff_eq] at *; omega)
    exact AW.retv rfl ⟨_, false, rfl, rfl, fun h => by cases h⟩
  ·refine Tri.enter 58 Tryz.func24 rfl rfl rfl rfl fun Fr w0 => ?_
   repeat' (first | (refine AW.r 0 ?_; refine AL.d (AOp.box_ro rfl rfl) ?_; refine AL.d (AOp.box_ro rfl rfl) ?_; refine xN 2 ?_) | (refine AW.dq 1 ?_; refine AQ.es 1 ?_; refine AQ.p rfl (AOp.call rfl rfl hVS) ?_; refine AQ.es 2 ?_; refine AQ.es 4 ?_; refine AQ.gp rfl (AOp.call rfl rfl hP) ?_; refine AQ.es 3 ?_; ((refine AQ.x (fun hb => ?_) (fun hb => ?_) <;> refine AQ.es 3 ?_)) <;> (first | (exfalso; simp only [dT, dF, lM, bne_iff_ne, ne_eq, bne_eq_false_iff_eq, beq_iff_eq, beq_eq_false_iff_ne] at *; omega) | refine AQ.k ?_) <;> refine AQ.es 3 ?_ <;> (refine AQ.es 3 ?_) <;> (refine AQ.k ?_) <;> refine AQ.es 3 ?_ <;> (refine AQ.es 3 ?_) <;> (refine AQ.k ?_) <;> refine AQ.es 4 ?_ <;> (refine AQ.k ?_) <;> (refine AQ.k ?_) <;> refine AQ.es 2 ?_ <;> refine AQ.nil ?_) | refine AW.re 2 2 ?_ | refine AW.jt ?_ | fail)
   all_goals try (exfalso; simp only [dT, dF] at *; omega)
   exact AW.retv rfl ⟨_, false, rfl, rfl, fun h => by cases h⟩
theorem sem_node (N M : Nat) {k ar : Int} {nm : ByteArray} {vars args args' : List ByteArray} {kids kids' : List GFml} {T : TT} {V V' : VV} (hs : shapedP ⟨k, ar, nm, vars, args, kids⟩ = true)
  (ha : args'.map (val V') = args.map (val V)) (hl : args'.length = args.length)
  (hk : ∀ (ts : List Int) (T : TT), ts.length = vars.length → semH N M kids' T (V' ++ vars.zip ts) = semH N M kids T (V ++ vars.zip ts) ∧ semA N M kids' T (V' ++ vars.zip ts) = semA N M kids T (V ++ vars.zip ts) ∧ semO N M kids' T (V' ++ vars.zip ts) = semO N M kids T (V ++ vars.zip ts)) :
  sem N M ⟨k, ar, nm, vars, args', kids'⟩ T V' = sem N M ⟨k, ar, nm, vars, args, kids⟩ T V := by
 have hkb := kind_bd hs
 have hq : k = 0 ∨ k = 1 ∨ k = 2 ∨ k = 3 ∨ k = 4 ∨ k = 5 ∨ k = 6 ∨ k = 7 ∨ k = 8 ∨ k = 9 ∨ k = 10 ∨ k = 11 := by simp only at hkb; omega
 have h0 : vars = [] → ∀ T, semH N M kids' T V' = semH N M kids T V ∧ semA N M kids' T V' = semA N M kids T V ∧ semO N M kids' T V' = semO N M kids T V := by
  intro e T
  have := hk [] T (by rw [e]; rfl)
  simpa using this
 have hno : ∀ q : Int, k = q → (q = 3 ∨ q = 4 ∨ q = 5 ∨ q = 11) → vars = [] := fun q e hq => shaped_no hs (by simp only; omega)
 have hg : ∀ i, i < args.length → val V' (args'.getD i empB) = val V (args.getD i empB) := by
  intro i hi
  have := congrArg (fun l => l[i]?) ha
  simp only [List.getElem?_map] at this
  rw [List.getD_eq_getElem?_getD, List.getD_eq_getElem?_getD]
  rw [List.getElem?_eq_getElem hi, List.getElem?_eq_getElem (by omega)] at this ⊢
  simpa using this
 rw [sem, sem]
 rcases hq with rfl | rfl | rfl | rfl | rfl | rfl | rfl | rfl | rfl | rfl | rfl | rfl
 ·simp only [if_true, ha]
 ·have h2 := shaped_eq2 hs (.inl rfl)
  simp only at h2
  simp only [hg 0 (by omega), hg 1 (by omega)]; rfl
 ·have h2 := shaped_eq2 hs (.inr rfl)
  simp only at h2
  simp only [hg 0 (by omega), hg 1 (by omega)]; rfl
 ·simp only [(h0 (hno 3 rfl (by omega)) T).1]; rfl
 ·simp only [(h0 (hno 4 rfl (by omega)) T).2.1]; rfl
 ·simp only [(h0 (hno 5 rfl (by omega)) T).2.2]; rfl
 ·simp only [fun i => (hk (tup N vars.length i) T (tup_len _ _ _)).1]; rfl
 ·simp only [fun i => (hk (tup N vars.length i) T (tup_len _ _ _)).1]; rfl
 ·simp only [ha, fun i X => (hk (tup N vars.length i) X (tup_len _ _ _)).1]; rfl
 ·simp only [ha, fun i X => (hk (tup N vars.length i) X (tup_len _ _ _)).1]; rfl
 ·have h2 := shaped_tc hs rfl
  simp only at h2
  simp only [ha, fun x y => (hk (tup N (vars.length / 2) x ++ tup N (vars.length / 2) y) T (by rw [lA, tup_len, tup_len]; omega)).1]; rfl
 ·simp only [fun X => (h0 (hno 11 rfl (by omega)) X).1]; rfl
theorem val_zip_out {v : ByteArray} {vars : List ByteArray} (h : v ∉ vars) (V : VV) (ts : List Int) : val (V ++ vars.zip ts) v = val V v := by
 have key : ∀ (vars : List ByteArray) (ts : List Int), v ∉ vars → lkT (vars.zip ts) v = none := by
  intro vars
  induction vars with
  | nil => intros; rfl
  | cons x l ih =>
   intro ts hm
   cases ts with
   | nil => rfl
   | cons t ts =>
    rw [List.zip_cons_cons, lkT, ih ts (fun h => hm (List.mem_cons_of_mem _ h))]
    simp only
    rw [if_neg (fun e => hm (by rw [← e]; exact List.mem_cons_self ..))]
 unfold val
 rw [lkT_app, key vars ts h]
section
variable (N M : Nat) (a b : ByteArray)
mutual
theorem sem_rn : ∀ (f : GFml) (bd : Bool) (T : TT) (V V' : VV), shsF f = true → cpF a b f bd = false → (∀ v, v ≠ a → val V v = val V' v) → (bd = false → val V a = val V' b) → sem N M (rnF a b f) T V' = sem N M f T V
 | ⟨k, ar, nm, vars, args, kids⟩, bd, T, V, V', hs, hc, h1, h2 => by
  rw [shsF, bA] at hs
  rw [cpF] at hc
  rw [rnF]
  have ha0 : (bd && has args a) = false := by
   cases h : (bd && has args a) with
   | false => rfl
   | true => rw [h] at hc; cases hc
  rw [ha0, cond_false] at hc
  refine sem_node N M hs.2 ?_ (lM ..) ?_
  ·rw [List.map_map]
   refine List.map_congr_left fun x hx => ?_
   show val V' (swp a b x) = val V x
   rw [swp]
   by_cases e : x = a
   ·rw [decide_eq_true e, cond_true, e]
    refine (h2 ?_).symm
    cases bd with
    | false => rfl
    | true => rw [Bool.true_and, has_mem.2 (e ▸ hx)] at ha0; cases ha0
   ·rw [decide_eq_false e, cond_false, h1 x e]
  ·intro ts T hl
   cases hv : has vars a with
   | true =>
    rw [cond_true]
    have := sem_envL N M kids T T (V' ++ vars.zip ts) (V ++ vars.zip ts) hs.1 (fun _ _ => rfl) fun s _ => val_zip_in V' V vars ts hl s fun hn => (h1 s fun e => hn (e ▸ has_mem.1 hv)).symm
    exact this
   | false =>
    rw [hv, cond_false] at hc
    rw [cond_false]
    refine sem_rnL kids (bd || has vars b) T _ _ hs.1 hc ?_ ?_
    ·intro v hva
     exact val_zip_in V V' vars ts hl v fun _ => h1 v hva
    ·intro hbd
     simp only [Bool.or_eq_false_iff] at hbd
     rw [val_zip_out (has_not.1 hv), val_zip_out (has_not.1 hbd.2)]
     exact h2 hbd.1
theorem sem_rnL : ∀ (l : List GFml) (bd : Bool) (T : TT) (V V' : VV), shsFs l = true → cpL a b l bd = false → (∀ v, v ≠ a → val V v = val V' v) → (bd = false → val V a = val V' b) → semH N M (rnFs a b l) T V' = semH N M l T V ∧ semA N M (rnFs a b l) T V' = semA N M l T V ∧ semO N M (rnFs a b l) T V' = semO N M l T V
 | [], bd, T, V, V', hs, hc, h1, h2 => by rw [rnFs]; simp [semH, semA, semO]
 | x :: l, bd, T, V, V', hs, hc, h1, h2 => by
  rw [shsFs, bA] at hs
  rw [cpL, Bool.or_eq_false_iff] at hc
  have k1 := sem_rn x bd T V V' hs.1 hc.1 h1 h2
  have k2 := sem_rnL l bd T V V' hs.2 hc.2 h1 h2
  rw [rnFs]
  simp only [semH, semA, semO, k1, k2.2.1, k2.2.2]
  exact ⟨trivial, trivial, trivial⟩
end
end
mutual
def vB (s : ByteArray) : GFml → Bool
 | ⟨_, _, _, vars, args, kids⟩ => has vars s || (has args s || vBL s kids)
def vBL (s : ByteArray) : List GFml → Bool
 | [] => false
 | x :: l => vB s x || vBL s l
end
mutual
theorem vr_vB (s : ByteArray) : ∀ (f : GFml) (out : List ByteArray), s ∈ vrF f out ↔ vB s f = true ∨ s ∈ out
 | ⟨k, ar, nm, vars, args, kids⟩, out => by
  rw [vrF, vr_vBL s kids, addVs_mem, addVs_mem, vB]
  simp only [Bool.or_eq_true, has_mem]
  constructor
  ·rintro (h | h | h | h) <;> simp [h]
  ·rintro ((h | h | h) | h) <;> simp [h]
theorem vr_vBL (s : ByteArray) : ∀ (l : List GFml) (out : List ByteArray), s ∈ vrL l out ↔ vBL s l = true ∨ s ∈ out
 | [], out => by rw [vrL, vBL]; simp
 | x :: l, out => by
  rw [vrL, vr_vBL s l, vr_vB s x, vBL, Bool.or_eq_true]
  constructor
  ·rintro (h | h | h) <;> simp [h]
  ·rintro ((h | h) | h) <;> simp [h]
end
theorem addV_nd {out : List ByteArray} (h : out.Nodup) (v : ByteArray) : (addV out v).Nodup := by
 unfold addV
 split
 ·exact h
 ·rename_i hn
  rw [List.nodup_append]
  refine ⟨h, by simp, ?_⟩
  intro x hx y hy e
  rw [List.mem_singleton.1 hy] at e
  exact hn (List.any_eq_true.2 ⟨x, hx, by simp [e]⟩)
theorem addVs_nd : ∀ (l : List ByteArray) {out : List ByteArray}, out.Nodup → (addVs l out).Nodup
 | [], _, h => h
 | v :: l, _, h => addVs_nd l (addV_nd h v)
mutual
theorem vrF_nd : ∀ (f : GFml) {out : List ByteArray}, out.Nodup → (vrF f out).Nodup
 | ⟨k, ar, nm, vars, args, kids⟩, out, h => by rw [vrF]; exact vrL_nd kids (addVs_nd args (addVs_nd vars h))
theorem vrL_nd : ∀ (l : List GFml) {out : List ByteArray}, out.Nodup → (vrL l out).Nodup
 | [], out, h => by rw [vrL]; exact h
 | x :: l, out, h => by rw [vrL]; exact vrL_nd l (vrF_nd x h)
end
theorem nodup_le {α : Type} [DecidableEq α] : ∀ (a b : List α), a.Nodup → (∀ x ∈ a, x ∈ b) → a.length ≤ b.length
 | [], b, _, _ => Nat.zero_le _
 | x :: a, b, h, k => by
  have hn := List.nodup_cons.1 h
  have hx := k x (List.mem_cons_self ..)
  have := nodup_le a (b.erase x) hn.2 fun y hy => (List.mem_erase_of_ne (fun e : y = x => hn.1 (e ▸ hy))).2 (k y (List.mem_cons_of_mem _ hy))
  rw [List.length_erase_of_mem hx] at this
  have hp := List.length_pos_of_mem hx
  rw [List.length_cons]; omega
section
variable (a b : ByteArray)
theorem args_not {l : List ByteArray} (h : has l a = false) : l.map (swp a b) = l :=
 (List.map_congr_left (g := id) fun x hx => by
  show swp a b x = x
  rw [swp, decide_eq_false (fun e : x = a => has_not.1 h (e ▸ hx))]; rfl).trans (List.map_id _)
mutual
theorem rn_not : ∀ f : GFml, fvB a f = false → rnF a b f = f
 | ⟨k, ar, nm, vars, args, kids⟩, h => by
  rw [fvB, Bool.or_eq_false_iff] at h
  rw [rnF, args_not a b h.1]
  cases hv : has vars a with
  | true => rfl
  | false =>
   have h2 := h.2
   rw [hv] at h2
   rw [cond_false, rn_notL kids (by simpa using h2)]
theorem rn_notL : ∀ l : List GFml, fvBL a l = false → rnFs a b l = l
 | [], h => by rw [rnFs]
 | x :: l, h => by
  rw [fvBL, Bool.or_eq_false_iff] at h
  rw [rnFs, rn_not x h.1, rn_notL l h.2]
end
mutual
theorem fv_vB : ∀ f : GFml, vB a f = false → fvB a f = false
 | ⟨k, ar, nm, vars, args, kids⟩, h => by
  rw [vB, Bool.or_eq_false_iff, Bool.or_eq_false_iff] at h
  rw [fvB, h.2.1, fv_vBL kids h.2.2]; simp
theorem fv_vBL : ∀ l : List GFml, vBL a l = false → fvBL a l = false
 | [], h => by rw [fvBL]
 | x :: l, h => by
  rw [vBL, Bool.or_eq_false_iff] at h
  rw [fvBL, fv_vB x h.1, fv_vBL l h.2]; rfl
end
mutual
theorem rn_back : ∀ f : GFml, vB b f = false → rnF b a (rnF a b f) = f
 | ⟨k, ar, nm, vars, args, kids⟩, h => by
  rw [vB, Bool.or_eq_false_iff, Bool.or_eq_false_iff] at h
  have ha : (args.map (swp a b)).map (swp b a) = args := by
   rw [List.map_map]
   refine (List.map_congr_left (g := id) fun x hx => ?_).trans (List.map_id _)
   show swp b a (swp a b x) = x
   have hxb : x ≠ b := fun e => has_not.1 h.2.1 (e ▸ hx)
   by_cases e : x = a
   ·rw [swp, swp, decide_eq_true e, cond_true, decide_eq_true rfl, cond_true, e]
   ·rw [swp, swp, decide_eq_false e, cond_false, decide_eq_false hxb, cond_false]
  rw [rnF, rnF, ha, h.1, cond_false]
  cases hv : has vars a with
  | true => rw [cond_true, rn_notL b a kids (fv_vBL b kids h.2.2)]
  | false => rw [cond_false, rn_backL kids h.2.2]
theorem rn_backL : ∀ l : List GFml, vBL b l = false → rnFs b a (rnFs a b l) = l
 | [], h => by rw [rnFs, rnFs]
 | x :: l, h => by
  rw [vBL, Bool.or_eq_false_iff] at h
  rw [rnFs, rnFs, rn_back x h.1, rn_backL l h.2]
end
mutual
theorem cp_not : ∀ (f : GFml) (bd : Bool), vB a f = false → cpF a b f bd = false
 | ⟨k, ar, nm, vars, args, kids⟩, bd, h => by
  rw [vB, Bool.or_eq_false_iff, Bool.or_eq_false_iff] at h
  rw [cpF, h.2.1, Bool.and_false, cond_false, h.1, cond_false, cp_notL kids _ h.2.2]
theorem cp_notL : ∀ (l : List GFml) (bd : Bool), vBL a l = false → cpL a b l bd = false
 | [], bd, h => by rw [cpL]
 | x :: l, bd, h => by
  rw [vBL, Bool.or_eq_false_iff] at h
  rw [cpL, cp_not x bd h.1, cp_notL l bd h.2]; rfl
end
mutual
theorem cp_back : ∀ f : GFml, vB b f = false → cpF b a (rnF a b f) false = false
 | ⟨k, ar, nm, vars, args, kids⟩, h => by
  rw [vB, Bool.or_eq_false_iff, Bool.or_eq_false_iff] at h
  rw [rnF, cpF, Bool.false_and, cond_false, h.1, cond_false, Bool.false_or]
  cases hv : has vars a with
  | true => rw [cond_true, cp_notL b a kids _ h.2.2]
  | false => rw [cond_false, cp_backL kids h.2.2]
theorem cp_backL : ∀ l : List GFml, vBL b l = false → cpL b a (rnFs a b l) false = false
 | [], h => by rw [rnFs, cpL]
 | x :: l, h => by
  rw [vBL, Bool.or_eq_false_iff] at h
  rw [rnFs, cpL, cp_back x h.1, cp_backL l h.2]; rfl
end
theorem has_swp {l : List ByteArray} {x : ByteArray} (h : has (l.map (swp a b)) x = true) : x = b ∨ has l x = true := by
 obtain ⟨y, hy, e⟩ := List.mem_map.1 (has_mem.1 h)
 rw [swp] at e
 cases hd : decide (y = a) with
 | true => rw [hd] at e; exact .inl e.symm
 | false => rw [hd] at e; exact .inr (has_mem.2 (show x ∈ l from e ▸ hy))
theorem has_swp2 {l : List ByteArray} {x : ByteArray} (hx : x ≠ a) (h : has l x = true) : has (l.map (swp a b)) x = true :=
 has_mem.2 (List.mem_map.2 ⟨x, has_mem.1 h, by rw [swp, decide_eq_false hx]; rfl⟩)
theorem has_swp3 {l : List ByteArray} (h : has l a = true) : has (l.map (swp a b)) b = true :=
 has_mem.2 (List.mem_map.2 ⟨a, has_mem.1 h, by rw [swp, decide_eq_true rfl]; rfl⟩)
mutual
theorem rn_v1 (x : ByteArray) : ∀ f : GFml, vB x (rnF a b f) = true → x = b ∨ vB x f = true
 | ⟨k, ar, nm, vars, args, kids⟩, h => by
  rw [rnF, vB, Bool.or_eq_true, Bool.or_eq_true] at h
  rw [vB]
  rcases h with h | h | h
  ·exact .inr (by rw [h]; rfl)
  ·rcases has_swp a b h with h | h
   ·exact .inl h
   ·exact .inr (by rw [h]; simp)
  ·cases hv : has vars a with
   | true => rw [hv] at h; exact .inr (by rw [show vBL x kids = true from h]; simp)
   | false =>
    rw [hv] at h
    rcases rn_v1L x kids h with h | h
    ·exact .inl h
    ·exact .inr (by rw [h]; simp)
theorem rn_v1L (x : ByteArray) : ∀ l : List GFml, vBL x (rnFs a b l) = true → x = b ∨ vBL x l = true
 | [], h => by rw [rnFs, vBL] at h; cases h
 | y :: l, h => by
  rw [rnFs, vBL, Bool.or_eq_true] at h
  rw [vBL]
  rcases h with h | h
  ·rcases rn_v1 x y h with h | h
   ·exact .inl h
   ·exact .inr (by rw [h]; rfl)
  ·rcases rn_v1L x l h with h | h
   ·exact .inl h
   ·exact .inr (by rw [h]; simp)
end
mutual
theorem rn_v2 (x : ByteArray) (hx : x ≠ a) : ∀ f : GFml, vB x f = true → vB x (rnF a b f) = true
 | ⟨k, ar, nm, vars, args, kids⟩, h => by
  rw [vB, Bool.or_eq_true, Bool.or_eq_true] at h
  rw [rnF, vB]
  rcases h with h | h | h
  ·rw [h]; rfl
  ·rw [has_swp2 a b hx h]; simp
  ·cases hv : has vars a with
   | true => rw [cond_true, h]; simp
   | false => rw [cond_false, rn_v2L x hx kids h]; simp
theorem rn_v2L (x : ByteArray) (hx : x ≠ a) : ∀ l : List GFml, vBL x l = true → vBL x (rnFs a b l) = true
 | [], h => by rw [vBL] at h; cases h
 | y :: l, h => by
  rw [vBL, Bool.or_eq_true] at h
  rw [rnFs, vBL]
  rcases h with h | h
  ·rw [rn_v2 x hx y h]; rfl
  ·rw [rn_v2L x hx l h]; simp
end
mutual
theorem rn_v3 : ∀ f : GFml, fvB a f = true → vB b (rnF a b f) = true
 | ⟨k, ar, nm, vars, args, kids⟩, h => by
  rw [fvB, Bool.or_eq_true, bA] at h
  rw [rnF, vB]
  rcases h with h | ⟨hv, h⟩
  ·rw [has_swp3 a b h]; simp
  ·have hv : has vars a = false := by simpa using hv
   rw [hv, cond_false, rn_v3L kids h]; simp
theorem rn_v3L : ∀ l : List GFml, fvBL a l = true → vBL b (rnFs a b l) = true
 | [], h => by rw [fvBL] at h; cases h
 | y :: l, h => by
  rw [fvBL, Bool.or_eq_true] at h
  rw [rnFs, vBL]
  rcases h with h | h
  ·rw [rn_v3 y h]; rfl
  ·rw [rn_v3L l h]; simp
end
mutual
theorem rn_rk : ∀ f : GFml, rkF (rnF a b f) = rkF f
 | ⟨k, ar, nm, vars, args, kids⟩ => by
  rw [rnF, rkF, rkF]
  cases has vars a with
  | true => rfl
  | false => rw [cond_false, rn_rkL kids]
theorem rn_rkL : ∀ (l : List GFml) (n : Int), rkFs (rnFs a b l) n = rkFs l n
 | [], n => by rw [rnFs]
 | x :: l, n => by rw [rnFs, rkFs, rkFs, rn_rk x, rn_rkL l]
end
theorem rn_width (f : GFml) (hb : b ∉ vrF f []) : (vrF f []).length ≤ (vrF (rnF a b f) []).length ∧ (vrF (rnF a b f) []).length ≤ (vrF f []).length + 1 ∧ (a ∉ frF f → (vrF f []).length = (vrF (rnF a b f) []).length) := by
 have hm : ∀ (x : ByteArray) (g : GFml), x ∈ vrF g [] ↔ vB x g = true := fun x g => by rw [vr_vB]; simp
 cases hf : fvB a f with
 | false =>
  rw [rn_not a b f hf]
  exact ⟨Nat.le_refl _, by omega, fun _ => rfl⟩
 | true =>
  refine ⟨?_, ?_, fun h => absurd ((frF_fv f a).2 hf) h⟩
  ·have h1 := nodup_le ((vrF f []).map fun x => if x = a then b else x) (vrF (rnF a b f) []) ?_ ?_
   ·rwa [lM] at h1
   ·have key : ∀ l : List ByteArray, b ∉ l → l.Nodup → (l.map fun x => if x = a then b else x).Nodup := by
     intro l
     induction l with
     | nil => intros; exact List.nodup_nil
     | cons y l ih =>
      intro hb hn
      have hn := List.nodup_cons.1 hn
      rw [List.map_cons, List.nodup_cons]
      refine ⟨?_, ih (fun h => hb (List.mem_cons_of_mem _ h)) hn.2⟩
      intro h
      obtain ⟨z, hz, e⟩ := List.mem_map.1 h
      by_cases h1 : z = a
      ·rw [if_pos h1] at e
       by_cases h2 : y = a
       ·exact hn.1 (by rw [h2, ← h1]; exact hz)
       ·rw [if_neg h2] at e; exact hb (by rw [e]; exact List.mem_cons_self ..)
      ·rw [if_neg h1] at e
       by_cases h2 : y = a
       ·rw [if_pos h2] at e; exact hb (by rw [← e]; exact List.mem_cons_of_mem _ hz)
       ·rw [if_neg h2] at e; exact hn.1 (e ▸ hz)
    exact key _ hb (vrF_nd f List.nodup_nil)
   ·intro y hy
    obtain ⟨x, hx, e⟩ := List.mem_map.1 hy
    rw [hm] at hx ⊢
    by_cases h1 : x = a
    ·rw [if_pos h1] at e; rw [← e]; exact rn_v3 a b f hf
    ·rw [if_neg h1] at e; rw [← e]; exact rn_v2 a b x h1 f hx
  ·have h1 := nodup_le (vrF (rnF a b f) []) (b :: vrF f []) (vrF_nd _ List.nodup_nil) fun x hx => by
    rw [hm] at hx
    rcases rn_v1 a b x f hx with h | h
    ·rw [h]; exact List.mem_cons_self ..
    ·exact List.mem_cons_of_mem _ ((hm x f).2 h)
   rwa [List.length_cons] at h1
end
theorem ref_AmongT (l : List (List Int)) (t : List Int) (hl : l.length ≤ 4611686018427387904) (hm : ∀ x ∈ l, x.length ≤ 4611686018427387904) (ht : t.length ≤ 4611686018427387904) :
  Tri Tryz.prog 26 [.sl (l.map ints), ints t] [] (D (.bool (decide (t ∈ l))) []) := by
 refine Tri.enter 18 Tryz.func26 rfl rfl rfl rfl fun Fr w0 => ?_
 repeat' (first | refine AW.re 0 1 ?_ | refine AW.re 1 1 ?_ | refine AW.go ?_ | fail)
 refine AW.prune [0, 1, 5] (AW.loop (fun mz af h => ∃ (i : Nat), i ≤ l.length ∧ mz = l.length - i ∧ af = [(0, .sl (l.map ints)), (1, ints t), (5, .int .i64 i)] ∧ h = [] ∧ decide (t ∈ l) = decide (t ∈ l.drop i)) l.length ⟨0, Nat.zero_le _, rfl, rfl, rfl, rfl⟩ ?_)
 rintro mz af h ⟨i, hi, rfl, rfl, rfl, he⟩
 refine AW.seq ?_
 by_cases hlt : i < l.length
 ·obtain ⟨x, hx⟩ := get_lt hlt
  have hx' : (l.map ints)[((i : Nat) : Int).toNat]? = some (ints x) := map_get hx
  have hE := ref_Equal x t (hm x (lG hx)) ht
  rw [drop_cons hx] at he
  repeat' (first | refine AW.re 2 4 ?_ | (refine xS 4 2 ?_; refine AL.d (iX hx') ?_; refine AL.es 2 ?_; refine AL.d (AOp.call rfl rfl hE) ?_; refine AL.nil ?_) | refine AW.re 5 1 ?_ | (refine xS 3 1 ?_; refine AL.d AOp.ad ?_; refine xN 1 ?_) | refine AW.jj (fun hb => ?_) (fun hb => ?_) | refine AW.go ?_ | fail)
  all_goals try (exfalso; simp only [dT, dF, lM] at *; omega)
  ·have h : x = t := by simpa using hb
   exact AW.retv rfl ⟨retB (by rw [he, h]; simp), rfl⟩
  ·have h : ¬ x = t := by simpa using hb
   refine AW.again_keep (l.length - (i + 1)) [0, 1, 5] (by omega) ⟨i + 1, hlt, rfl, rfl, rfl, ?_⟩
   rw [he]; simp [show ¬ t = x from fun e => h e.symm]
 ·rw [List.drop_eq_nil_of_le (by omega)] at he
  repeat' (first | refine AW.re 2 4 ?_ | refine AW.re 6 1 ?_ | refine AW.jj (fun hb => ?_) (fun hb => ?_) | refine AW.go ?_ | fail)
  all_goals try (exfalso; simp only [dT, dF, lM] at *; omega)
  exact AW.retv rfl ⟨by rw [he]; rfl, rfl⟩
theorem tup_of {n : Nat} (hn : 0 < n) : ∀ (k : Nat) (t : List Int), t.length = k → (∀ x ∈ t, 0 ≤ x ∧ x < n) → ∃ i, i < n ^ k ∧ tup n k i = t
 | 0, t, hl, _ => ⟨0, by simp, by rw [List.length_eq_zero_iff.1 hl]; rfl⟩
 | k + 1, t, hl, hm => by
  have hne : t ≠ [] := by intro e; rw [e] at hl; simp at hl
  obtain ⟨l, x, rfl⟩ : ∃ l x, t = l ++ [x] := ⟨_, _, (List.dropLast_concat_getLast hne).symm⟩
  obtain ⟨i, hi, e⟩ := tup_of hn k l (by simpa using hl) (fun y hy => hm y (List.mem_append_left _ hy))
  obtain ⟨h0, h1⟩ := hm x (by simp)
  obtain ⟨m, rfl⟩ := Int.eq_ofNat_of_zero_le h0
  have hm' : m < n := by omega
  refine ⟨i * n + m, ?_, ?_⟩
  ·rw [Nat.pow_succ]
   calc i * n + m < i * n + n := by omega
    _ = (i + 1) * n := by rw [Nat.add_mul, Nat.one_mul]
    _ ≤ n ^ k * n := Nat.mul_le_mul_right n hi
  ·rw [tup, Nat.add_comm (i * n) m, Nat.add_mul_div_right _ _ hn, Nat.div_eq_of_lt hm', Nat.zero_add, e, Nat.add_mul_mod_self_right, Nat.mod_eq_of_lt hm']
theorem qry_mem {N M : Nat} (hN : 0 < N) {f : GFml} {T : TT} {vars : List ByteArray} {t : List Int} (hl : t.length = vars.length) (hm : ∀ x ∈ t, 0 ≤ x ∧ x < N) : decide (t ∈ qryL N M f T vars (N ^ vars.length)) = sem N M f T (vars.zip t) := by
 obtain ⟨i, hi, e⟩ := tup_of hN vars.length t hl hm
 have h1 : t ∈ tupL N vars.length (N ^ vars.length) := List.mem_map.2 ⟨i, List.mem_range.2 hi, e⟩
 unfold qryL
 cases hs : sem N M f T (vars.zip t) with
 | true => exact decide_eq_true (List.mem_filter.2 ⟨h1, hs⟩)
 | false => exact decide_eq_false fun h => by have := (List.mem_filter.1 h).2; rw [hs] at this; cases this
def lstN (l : List ByteArray) (s : ByteArray) : Nat → Nat
 | 0 => 0
 | i + 1 => if l[i]? = some s then i else lstN l s i
theorem lstN_spec {l : List ByteArray} {s : ByteArray} : ∀ {k : Nat}, s ∈ l.take k → lstN l s k < k ∧ l[lstN l s k]? = some s
 | 0, h => by simp at h
 | k + 1, h => by
  rw [lstN]
  by_cases e : l[k]? = some s
  ·rw [if_pos e]; exact ⟨by omega, e⟩
  ·rw [if_neg e]
   have : s ∈ l.take k := by
    rw [List.take_add_one, List.mem_append] at h
    rcases h with h | h
    ·exact h
    ·exfalso
     cases hk : l[k]? with
     | none => rw [hk] at h; simp at h
     | some y => rw [hk] at h e; simp at h; exact e (by rw [h])
   obtain ⟨h1, h2⟩ := lstN_spec this
   exact ⟨by omega, h2⟩
theorem lkT_last {α : Type} {l : List ByteArray} {ts : List α} (hl : ts.length = l.length) (s : ByteArray) : ∀ k : Nat, k ≤ l.length → (s ∈ l.take k → lkT ((l.take k).zip (ts.take k)) s = ts[lstN l s k]?) ∧ (s ∉ l.take k → lkT ((l.take k).zip (ts.take k)) s = none)
 | 0, _ => ⟨fun h => by simp at h, fun _ => by simp [lkT]⟩
 | k + 1, hk => by
  obtain ⟨x, hx⟩ := get_lt (show k < l.length by omega)
  have hk2 : k < ts.length := by omega
  have ht : ts[k]? = some ts[k] := List.getElem?_eq_getElem hk2
  obtain ⟨ih1, ih2⟩ := lkT_last hl s k (by omega)
  have e1 : l.take (k + 1) = l.take k ++ [x] := by rw [List.take_add_one, hx]; rfl
  have e2 : ts.take (k + 1) = ts.take k ++ [ts[k]] := by rw [List.take_add_one, ht]; rfl
  rw [e1, e2, List.zip_append (by simp; omega), List.zip_cons_cons, List.zip_nil_left, lkT_snoc]
  show (_ → _ = ts[if l[k]? = some s then k else lstN l s k]?) ∧ _
  rw [hx]
  by_cases e : x = s
  ·subst e
   refine ⟨fun _ => by simp [ht], fun h => absurd (by simp) h⟩
  ·rw [if_neg e, if_neg (show ¬ some x = some s by simpa using e)]
   refine ⟨fun h => ih1 ?_, fun h => ih2 fun h2 => h (List.mem_append_left _ h2)⟩
   rcases List.mem_append.1 h with h | h
   ·exact h
   ·exact absurd (List.mem_singleton.1 h).symm e
theorem val_last {l : List ByteArray} {ts : List Int} (hl : ts.length = l.length) (s : ByteArray) : (s ∈ l → val (l.zip ts) s = (ts[lstN l s l.length]?).getD 0) ∧ (s ∉ l → val (l.zip ts) s = 0) := by
 have := lkT_last hl s l.length (Nat.le_refl _)
 rw [List.take_length, show ts.take l.length = ts by rw [← hl, List.take_length]] at this
 exact ⟨fun h => by rw [val, this.1 h], fun h => by rw [val, this.2 h]; rfl⟩
theorem rn_answer {N M : Nat} (hN : 0 < N) {f : GFml} {a b : ByteArray} (hs : shsF f = true) (hc : cpF a b f false = false) (T : TT) {vars : List ByteArray} (ha : a ∈ vars) (hb : b ∈ vars) {u : List Int} (hl : u.length = vars.length) (hm : ∀ x ∈ u, 0 ≤ x ∧ x < N) {y : Int} (hy : u[lstN vars b vars.length]? = some y) :
  decide (u ∈ qryL N M (rnF a b f) T vars (N ^ vars.length)) = decide (u.set (lstN vars a vars.length) y ∈ qryL N M f T vars (N ^ vars.length)) := by
 have hA := lstN_spec (s := a) (l := vars) (k := vars.length) (by rw [List.take_length]; exact ha)
 rw [qry_mem hN hl hm, qry_mem hN (by rw [List.length_set]; exact hl) (fun x hx => by
  rcases List.mem_or_eq_of_mem_set hx with h | h
  ·exact hm x h
  ·rw [h]; exact hm y (lG hy))]
 refine sem_rn N M a b f false T _ _ hs hc (fun v hv => ?_) (fun _ => ?_)
 ·by_cases hmv : v ∈ vars
  ·rw [(val_last (by rw [List.length_set]; exact hl) v).1 hmv, (val_last hl v).1 hmv]
   have hV := lstN_spec (s := v) (l := vars) (k := vars.length) (by rw [List.take_length]; exact hmv)
   rw [List.getElem?_set_ne]
   intro e
   rw [← e, hA.2] at hV
   exact hv (Option.some.inj hV.2).symm
  ·rw [(val_last (by rw [List.length_set]; exact hl) v).2 hmv, (val_last hl v).2 hmv]
 ·rw [(val_last (by rw [List.length_set]; exact hl) a).1 ha, (val_last hl b).1 hb, hy, List.getElem?_set_self (by omega)]
theorem addN_mem : ∀ (l out : List ByteArray) (x : ByteArray), x ∈ out ∨ x ∈ l → x ∈ addN out l
 | [], out, x, h => by rw [addN]; simpa using h
 | y :: l, out, x, h => by
  rw [addN]
  refine addN_mem l _ x ?_
  cases hh : has out y with
  | true =>
   rcases h with h | h
   ·exact .inl h
   ·rcases List.mem_cons.1 h with rfl | h
    ·exact .inl (has_mem.1 hh)
    ·exact .inr h
  | false =>
   rcases h with h | h
   ·exact .inl (List.mem_append_left _ h)
   ·rcases List.mem_cons.1 h with rfl | h
    ·exact .inl (List.mem_append_right _ (by simp))
    ·exact .inr h
theorem renE_zero {a b : ByteArray} {f : GFml} (h : renE a b f = 0) : validF f = true ∧ nameB a = true ∧ nameB b = true ∧ cpF a b f false = false := by
 unfold renE at h
 cases hv : validF f with
 | false => rw [hv] at h; cases h
 | true =>
  rw [hv, cond_true] at h
  cases hn : (nameB a && nameB b) with
  | false => rw [hn] at h; cases h
  | true =>
   rw [hn, cond_true] at h
   cases hc : cpF a b f false with
   | true => rw [hc] at h; cases h
   | false =>
    rw [bA] at hn
    exact ⟨rfl, hn.1, hn.2, rfl⟩
theorem qryL_len2 (N M : Nat) (f : GFml) (T : TT) (vars : List ByteArray) (m : Nat) : ∀ t ∈ qryL N M f T vars m, t.length = vars.length := by
 intro t ht
 unfold qryL at ht
 have := (List.mem_filter.1 ht).1
 unfold tupL at this
 obtain ⟨i, _, rfl⟩ := List.mem_map.1 this
 exact tup_len _ _ _
theorem law_NormRenamed (f : GFml) (a b : ByteArray) (s : GStr) (ho : f.Ok) (oa : strOk a) (ob : strOk b) (hs : s.Ok) : Tri Tryz.prog 4 [f.st, .st [.str a, .str b], s.av] [] (D (.bool true) []) := by
 have hF := few_one 300 (by omega) f ho
 have hFS := law_FewS s hs
 have hAl := alive
 have oa' := oa
 have ob' := ob
 unfold strOk at oa' ob'
 by_cases hfew : wFs 300 [f] 0 ≤ 300
 ·rw [decide_eq_true hfew] at hF
  have hnd := few_nd hfew (by omega)
  have hN := n_Rename f a b ho oa ob
  by_cases hE : renE a b f = 0
  ·obtain ⟨hv, na, nb, hcp⟩ := renE_zero hE
   have hsh := validF_shs hv
   have hP : renP a b f = rnF a b f := by unfold renP; rw [hE]; rfl
   rw [hE, hP] at hN
   have hgo := rn_ok a b ob f ho
   have hgs := rn_sh a b nb f hsh
   have hgv := er_valid (rn_er a b f) hv hgs
   have hgn : ndF (rnF a b f) = ndF f := by rw [← er_nd, rn_er, er_nd]
   have hVa := ref_vars0 f ho hsh (by omega)
   have hvl := vrF_len f [] hsh
   rw [List.length_nil, Nat.zero_add] at hvl
   have hIn := Among_has (vrF f []) (by omega) b
   have hcl : (vrF f []).length ≤ 20000 := by omega
   have hB : b ∉ vrF f [] → Tri Tryz.prog 16 [(rnF a b f).st, .str b, .str a] [] (D (.tup [f.st, .int .i64 0]) []) := fun hb => by
    have hvb : vB b f = false := by
     cases h : vB b f with
     | false => rfl
     | true => exact absurd ((vr_vB b f []).2 (.inl h)) hb
    have h := n_Rename (rnF a b f) b a hgo ob oa
    have h0 : renE b a (rnF a b f) = 0 := by unfold renE; rw [hgv, nb, na, cp_back a b f hvb]; rfl
    have h1 : renP b a (rnF a b f) = f := by unfold renP; rw [h0]; exact rn_back a b f hvb
    rw [h0, h1] at h
    exact h
   have hR1 := n_Rank f ho (by omega)
   have hR2 := n_Rank (rnF a b f) hgo (by omega)
   have hW1 := n_Width f ho
   have hW2 := n_Width (rnF a b f) hgo
   rw [hv] at hR1 hW1
   rw [hgv] at hR2 hW2
   rw [rn_rk] at hR2
   simp only [cond_true] at hR1 hR2 hW1 hW2
   have hw := rn_width a b f
   have hag := agF_len f hsh
   have hfl := frF_len f
   have hFr := ref_Free _ f (Nat.le_refl _) ho (by omega)
   have hLo := Among_has (frF f) (by omega) a
   have hS := ref_Same _ f f (Nat.le_refl _) ho ho
   rw [eqF_refl] at hS
   have hfree := law_free f ho hsh (by omega) [a, b] (by simp)
   have hia : a ∈ addN (frF f) [a, b] := addN_mem _ _ _ (.inr (by simp))
   have hib : b ∈ addN (frF f) [a, b] := addN_mem _ _ _ (.inr (by simp))
   have hans := fun (N : Nat) (hN : 0 < N) T (u : List Int) (y : Int) h1 h2 h3 => rn_answer (M := 6000) (u := u) (y := y) hN hsh hcp T hia hib h1 h2 h3
   have hEf := fun h => law_evaluated 6000 (by omega) f s (addN (frF f) [a, b]) ho hs hv (by omega) h
   have hEg := fun h => law_evaluated 6000 (by omega) (rnF a b f) s (addN (frF f) [a, b]) hgo hs hgv (by omega) h
   have hlost : has (frF f) a = false → a ∉ frF f := fun h => has_not.1 h
   have hnot : has (vrF f []) b = false → b ∉ vrF f [] := fun h => has_not.1 h
   generalize rkF f = rk at *
   generalize has (frF f) a = lo at *
   generalize has (vrF f []) b = hb0 at *
   generalize (vrF (rnF a b f) []).length = d at *
   generalize (vrF f []).length = c at *
   generalize addN (frF f) [a, b] = vs at *
   clear hfew hvl hag hfl hP hE
   generalize rnF a b f = g at *
   obtain ⟨f0, hf0⟩ : ∃ x, x = f := ⟨f, rfl⟩
   obtain ⟨k, ar, nm, vars, args, kids⟩ := f
   refine Tri.enter 242 Tryz.func4 rfl rfl rfl rfl fun Fr w0 => ?_
   repeat' (first | (refine AW.r 0 ?_; (first | refine AL.d (AOp.box_ro rfl rfl) ?_ | refine AL.d (AOp.box_ro rfl rfl) ?_) <;> (first | refine AL.d (AOp.box_ro rfl rfl) ?_ | refine AL.d (AOp.box_ro rfl rfl) ?_) <;> (first | refine AL.d (AOp.box_ro rfl rfl) ?_ | refine AL.d (AOp.box_ro rfl rfl) ?_) <;> refine AL.es 1 ?_ <;> refine AL.nil ?_) | (refine AW.r 1 ?_; (first | refine AL.d AOp.la ?_ | refine AL.d (AOp.lw 0) ?_) <;> (first | refine AL.d (AOp.lit (e := 25) (sz := 6) (by kernel_rfl) rfl rfl rfl (P_one rfl) (by decide)) ?_ | refine AL.d (AOp.lit (e := 28) (sz := 2) (by kernel_rfl) rfl rfl rfl (P_one rfl) (by decide)) ?_) <;> (first | (refine AL.callQ rfl rfl hFS rfl ?_ ?_; rotate_left; rintro _ _ ⟨_, e, _⟩; cases e; rintro _ _ ⟨b, e, rfl⟩; injection e with e; subst e; cases b) | refine AL.d (AOp.call rfl rfl hF) ?_ | refine AL.d (AOp.call rfl rfl hAl) ?_) <;> refine AL.es 2 ?_ <;> (first | (refine AL.gd ?_; (first | refine AL.d AOp.fa ?_ | refine AL.d (AOp.fr 0) ?_)) | refine AL.gs ?_ | refine AL.gu ?_ | (refine AL.gx (fun hb => ?_) (fun hb => ?_) <;> first | (refine AL.gd ?_; (first | refine AL.d AOp.fa ?_ | refine AL.d (AOp.fr 0) ?_)) | refine AL.gs ?_)) <;> (first | (refine AL.gd ?_; (first | refine AL.d AOp.la ?_ | refine AL.d (AOp.ll 0) ?_)) | refine AL.gs ?_ | refine AL.gu ?_) <;> refine AL.es 1 ?_ <;> (first | (refine AL.gd ?_; (first | refine AL.d AOp.fa ?_ | refine AL.d (AOp.fr 1) ?_)) | refine AL.gs ?_ | refine AL.gu ?_) <;> (first | (refine AL.gd ?_; (first | refine AL.d AOp.la ?_ | refine AL.d (AOp.ll 0) ?_)) | refine AL.gs ?_ | refine AL.gu ?_) <;> refine AL.es 1 ?_ <;> (first | (refine AL.gd ?_; (first | refine AL.d (AOp.add rfl rfl (by omega)) ?_ | refine AL.d AOp.ad ?_)) | refine AL.gs ?_ | refine AL.gu ?_) <;> refine AL.es 3 ?_ <;> (first | (refine AL.gd ?_; (first | refine AL.d AOp.la ?_ | refine AL.d (AOp.lw 0) ?_)) | refine AL.gs ?_ | refine AL.gu ?_ | (refine AL.gx (fun hb => ?_) (fun hb => ?_) <;> first | (refine AL.gd ?_; (first | refine AL.d AOp.la ?_ | refine AL.d (AOp.lw 0) ?_)) | refine AL.gs ?_)) <;> (first | (refine AL.gd ?_; (first | refine AL.d (AOp.lit (e := 25) (sz := 6) (by kernel_rfl) rfl rfl rfl (P_one rfl) (by decide)) ?_ | refine AL.d (AOp.lit (e := 28) (sz := 2) (by kernel_rfl) rfl rfl rfl (P_one rfl) (by decide)) ?_)) | refine AL.gs ?_ | refine AL.gu ?_) <;> (first | (refine AL.gd ?_; (first | (refine AL.callQ rfl rfl hFS rfl ?_ ?_; rotate_left; rintro _ _ ⟨_, e, _⟩; cases e; rintro _ _ ⟨b, e, rfl⟩; injection e with e; subst e; cases b) | refine AL.d (AOp.call rfl rfl hF) ?_ | refine AL.d (AOp.call rfl rfl hAl) ?_)) | refine AL.gs ?_ | refine AL.gu ?_) <;> refine AL.es 2 ?_ <;> refine AL.nil ?_) | (refine AW.r 2 ?_; (first | (refine AL.callQ rfl rfl hFS rfl ?_ ?_; rotate_left; rintro _ _ ⟨_, e, _⟩; cases e; rintro _ _ ⟨b, e, rfl⟩; injection e with e; subst e; cases b) | refine AL.d (AOp.call rfl rfl hF) ?_ | refine AL.d (AOp.call rfl rfl hAl) ?_) <;> refine AL.es 1 ?_ <;> refine AL.nil ?_) | refine AW.jt ?_ | refine AW.jf ?_ | refine AW.jj (fun hb => ?_) (fun hb => ?_) | refine AW.go ?_ | fail)
   all_goals first | exact AW.retv rfl ⟨rfl, rfl⟩ | skip
   repeat' (first | (refine AW.r 3 ?_; (first | refine AL.d AOp.la ?_ | refine AL.d (AOp.lw 0) ?_) <;> (first | refine AL.d AOp.fa ?_ | refine AL.d (AOp.fr 0) ?_) <;> (first | refine AL.d AOp.la ?_ | refine AL.d (AOp.ll 0) ?_) <;> (first | refine AL.d AOp.fa ?_ | refine AL.d (AOp.fr 1) ?_) <;> (first | refine AL.d AOp.la ?_ | refine AL.d (AOp.ll 0) ?_) <;> refine AL.d (AOp.call rfl rfl hN) ?_ <;> refine AL.es 3 ?_ <;> refine AL.alloc_z (t := 25) zF (by kernel_rfl) rfl rfl fun r7 => ?_ <;> refine AL.sl 0 ?_ <;> refine AL.es 1 ?_ <;> refine AL.nil ?_) | refine AW.re 4 2 ?_ | refine AW.jt ?_ | refine AW.jf ?_ | refine AW.jj (fun hb => ?_) (fun hb => ?_) | fail)
   refine AW.skip ?_
   refine AW.seq ?_
   refine AW.cut (fun af h => af = [(3, .at (.st [.int .i64 k, .int .i64 ar, .str nm, strs vars, strs args, .sl (kids.map GFml.av)])), (4, .at (.st [.str a, .str b])), (5, .at s.av), (7, .ref r7 0)] ∧ h = [.box r7 g.st]) ?_ ?_
   ·cases hb0 with
    | true =>
     repeat' (first | (refine AW.dq 6 ?_; refine AQ.es 1 ?_; (first | refine AQ.p rfl (AOp.call_nil2 rfl rfl (hVa.pure _)) ?_ | refine AQ.p rfl (AOp.call rfl rfl (hIn.pure _)) ?_) <;> refine AQ.es 2 ?_ <;> (first | refine AQ.p rfl (AOp.call_nil2 rfl rfl (hVa.pure _)) ?_ | refine AQ.p rfl (AOp.call rfl rfl (hIn.pure _)) ?_) <;> refine AQ.es 1 ?_ <;> refine AQ.nil ?_) | refine AW.jt ?_ | refine AW.jf ?_ | refine AW.jj (fun hb => ?_) (fun hb => ?_) | refine AW.go ?_ | fail)
     exact AW.meet [3, 4, 5, 7] ⟨rfl, rfl⟩
    | false =>
     have hbn := hnot rfl
     have hB1 := hB hbn
     obtain ⟨w1, w2, w3⟩ := hw hbn
     have w4 : lo = false → c = d := fun h => w3 (hlost h)
     clear hB hw hans hEf hEg w3 hlost hnot
     repeat' (first | (refine AW.dq 6 ?_; (first | refine AQ.p rfl AOp.la ?_ | refine AQ.p rfl (AOp.lw 0) ?_ | refine AQ.p rfl (AOp.lw 1) ?_) <;> (first | refine AQ.p rfl (AOp.call_nil2 rfl rfl (hVa.pure _)) ?_ | refine AQ.p rfl (AOp.call rfl rfl (hIn.pure _)) ?_ | refine AQ.p rfl (AOp.call rfl rfl (hB1.pure _)) ?_ | refine AQ.p rfl (AOp.call rfl rfl (hR1.pure _)) ?_ | refine AQ.p rfl (AOp.call rfl rfl (hR2.pure _)) ?_ | refine AQ.p rfl (AOp.call rfl rfl (hW1.pure _)) ?_ | refine AQ.p rfl (AOp.call rfl rfl (hW2.pure _)) ?_ | refine AQ.p rfl (AOp.call rfl rfl (hFr.pure _)) ?_ | refine AQ.p rfl (AOp.call rfl rfl (hLo.pure _)) ?_) <;> (first | refine AQ.p rfl AOp.fa ?_ | refine AQ.p rfl (AOp.fr 1) ?_) <;> (first | refine AQ.p rfl AOp.la ?_ | refine AQ.p rfl (AOp.ll 0) ?_ | refine AQ.p rfl (AOp.ll 1) ?_) <;> (first | refine AQ.p rfl (AOp.call_nil2 rfl rfl (hVa.pure _)) ?_ | refine AQ.p rfl (AOp.call rfl rfl (hIn.pure _)) ?_ | refine AQ.p rfl (AOp.call rfl rfl (hB1.pure _)) ?_ | refine AQ.p rfl (AOp.call rfl rfl (hR1.pure _)) ?_ | refine AQ.p rfl (AOp.call rfl rfl (hR2.pure _)) ?_ | refine AQ.p rfl (AOp.call rfl rfl (hW1.pure _)) ?_ | refine AQ.p rfl (AOp.call rfl rfl (hW2.pure _)) ?_ | refine AQ.p rfl (AOp.call rfl rfl (hFr.pure _)) ?_ | refine AQ.p rfl (AOp.call rfl rfl (hLo.pure _)) ?_) <;> refine AQ.es 1 ?_ <;> refine AQ.nil ?_) | (refine AW.r 7 ?_; (first | refine AL.d AOp.la ?_ | refine AL.d (AOp.lw 0) ?_ | refine AL.d (AOp.lw 1) ?_) <;> (first | refine AL.d AOp.fa ?_ | refine AL.d (AOp.fr 1) ?_) <;> (first | refine AL.d AOp.la ?_ | refine AL.d (AOp.ll 0) ?_ | refine AL.d (AOp.ll 1) ?_) <;> (first | refine AL.d AOp.fa ?_ | refine AL.d (AOp.fr 0) ?_) <;> (first | refine AL.d AOp.la ?_ | refine AL.d (AOp.ll 0) ?_ | refine AL.d (AOp.ll 1) ?_) <;> (first | refine AL.d (AOp.call_nil2 rfl rfl (hVa.pure _)) ?_ | refine AL.d (AOp.call rfl rfl (hIn.pure _)) ?_ | refine AL.d (AOp.call rfl rfl (hB1.pure _)) ?_ | refine AL.d (AOp.call rfl rfl (hR1.pure _)) ?_ | refine AL.d (AOp.call rfl rfl (hR2.pure _)) ?_ | refine AL.d (AOp.call rfl rfl (hW1.pure _)) ?_ | refine AL.d (AOp.call rfl rfl (hW2.pure _)) ?_ | refine AL.d (AOp.call rfl rfl (hFr.pure _)) ?_ | refine AL.d (AOp.call rfl rfl (hLo.pure _)) ?_) <;> refine AL.es 3 ?_ <;> refine AL.alloc_z (t := 25) zF (by kernel_rfl) rfl rfl fun r9 => ?_ <;> (first | refine AL.sl 0 ?_ | refine AL.sl 1 ?_) <;> refine AL.es 1 ?_ <;> refine AL.nil ?_) | (refine AW.r 8 ?_; (first | refine AL.d AOp.la ?_ | refine AL.d (AOp.lw 0) ?_ | refine AL.d (AOp.lw 1) ?_) <;> (first | refine AL.d (AOp.call_nil2 rfl rfl (hVa.pure _)) ?_ | refine AL.d (AOp.call rfl rfl (hIn.pure _)) ?_ | refine AL.d (AOp.call rfl rfl (hB1.pure _)) ?_ | refine AL.d (AOp.call rfl rfl (hR1.pure _)) ?_ | refine AL.d (AOp.call rfl rfl (hR2.pure _)) ?_ | refine AL.d (AOp.call rfl rfl (hW1.pure _)) ?_ | refine AL.d (AOp.call rfl rfl (hW2.pure _)) ?_ | refine AL.d (AOp.call rfl rfl (hFr.pure _)) ?_ | refine AL.d (AOp.call rfl rfl (hLo.pure _)) ?_) <;> refine AL.es 5 ?_ <;> refine AL.nil ?_) | (refine AW.r 9 ?_; (first | refine AL.d AOp.la ?_ | refine AL.d (AOp.lw 0) ?_ | refine AL.d (AOp.lw 1) ?_) <;> (first | refine AL.d (AOp.call_nil2 rfl rfl (hVa.pure _)) ?_ | refine AL.d (AOp.call rfl rfl (hIn.pure _)) ?_ | refine AL.d (AOp.call rfl rfl (hB1.pure _)) ?_ | refine AL.d (AOp.call rfl rfl (hR1.pure _)) ?_ | refine AL.d (AOp.call rfl rfl (hR2.pure _)) ?_ | refine AL.d (AOp.call rfl rfl (hW1.pure _)) ?_ | refine AL.d (AOp.call rfl rfl (hW2.pure _)) ?_ | refine AL.d (AOp.call rfl rfl (hFr.pure _)) ?_ | refine AL.d (AOp.call rfl rfl (hLo.pure _)) ?_) <;> refine AL.es 5 ?_ <;> refine AL.nil ?_) | (refine AW.r 10 ?_; (first | refine AL.d AOp.la ?_ | refine AL.d (AOp.lw 0) ?_ | refine AL.d (AOp.lw 1) ?_) <;> (first | refine AL.d (AOp.call_nil2 rfl rfl (hVa.pure _)) ?_ | refine AL.d (AOp.call rfl rfl (hIn.pure _)) ?_ | refine AL.d (AOp.call rfl rfl (hB1.pure _)) ?_ | refine AL.d (AOp.call rfl rfl (hR1.pure _)) ?_ | refine AL.d (AOp.call rfl rfl (hR2.pure _)) ?_ | refine AL.d (AOp.call rfl rfl (hW1.pure _)) ?_ | refine AL.d (AOp.call rfl rfl (hW2.pure _)) ?_ | refine AL.d (AOp.call rfl rfl (hFr.pure _)) ?_ | refine AL.d (AOp.call rfl rfl (hLo.pure _)) ?_) <;> refine AL.es 5 ?_ <;> refine AL.nil ?_) | (refine AW.r 11 ?_; (first | refine AL.d AOp.la ?_ | refine AL.d (AOp.lw 0) ?_ | refine AL.d (AOp.lw 1) ?_) <;> (first | refine AL.d (AOp.call_nil2 rfl rfl (hVa.pure _)) ?_ | refine AL.d (AOp.call rfl rfl (hIn.pure _)) ?_ | refine AL.d (AOp.call rfl rfl (hB1.pure _)) ?_ | refine AL.d (AOp.call rfl rfl (hR1.pure _)) ?_ | refine AL.d (AOp.call rfl rfl (hR2.pure _)) ?_ | refine AL.d (AOp.call rfl rfl (hW1.pure _)) ?_ | refine AL.d (AOp.call rfl rfl (hW2.pure _)) ?_ | refine AL.d (AOp.call rfl rfl (hFr.pure _)) ?_ | refine AL.d (AOp.call rfl rfl (hLo.pure _)) ?_) <;> refine AL.es 5 ?_ <;> refine AL.nil ?_) | (refine AW.dq 12 ?_; (first | refine AQ.p rfl AOp.la ?_ | refine AQ.p rfl (AOp.lw 0) ?_ | refine AQ.p rfl (AOp.lw 1) ?_) <;> (first | refine AQ.p rfl (AOp.call_nil2 rfl rfl (hVa.pure _)) ?_ | refine AQ.p rfl (AOp.call rfl rfl (hIn.pure _)) ?_ | refine AQ.p rfl (AOp.call rfl rfl (hB1.pure _)) ?_ | refine AQ.p rfl (AOp.call rfl rfl (hR1.pure _)) ?_ | refine AQ.p rfl (AOp.call rfl rfl (hR2.pure _)) ?_ | refine AQ.p rfl (AOp.call rfl rfl (hW1.pure _)) ?_ | refine AQ.p rfl (AOp.call rfl rfl (hW2.pure _)) ?_ | refine AQ.p rfl (AOp.call rfl rfl (hFr.pure _)) ?_ | refine AQ.p rfl (AOp.call rfl rfl (hLo.pure _)) ?_) <;> (first | refine AQ.p rfl AOp.fa ?_ | refine AQ.p rfl (AOp.fr 0) ?_) <;> (first | refine AQ.p rfl AOp.la ?_ | refine AQ.p rfl (AOp.ll 0) ?_ | refine AQ.p rfl (AOp.ll 1) ?_) <;> (first | refine AQ.p rfl (AOp.call_nil2 rfl rfl (hVa.pure _)) ?_ | refine AQ.p rfl (AOp.call rfl rfl (hIn.pure _)) ?_ | refine AQ.p rfl (AOp.call rfl rfl (hB1.pure _)) ?_ | refine AQ.p rfl (AOp.call rfl rfl (hR1.pure _)) ?_ | refine AQ.p rfl (AOp.call rfl rfl (hR2.pure _)) ?_ | refine AQ.p rfl (AOp.call rfl rfl (hW1.pure _)) ?_ | refine AQ.p rfl (AOp.call rfl rfl (hW2.pure _)) ?_ | refine AQ.p rfl (AOp.call rfl rfl (hFr.pure _)) ?_ | refine AQ.p rfl (AOp.call rfl rfl (hLo.pure _)) ?_) <;> refine AQ.es 2 ?_ <;> refine AQ.nil ?_) | refine AW.jt ?_ | refine AW.jf ?_ | refine AW.jj (fun hb => ?_) (fun hb => ?_) | refine AW.go ?_ | fail)
     cases lo <;> repeat' (first | (refine xS 13 3 ?_; (first | refine AL.es 4 ?_ | (refine AL.gx (fun hb => ?_) (fun hb => ?_) <;> refine AL.es 4 ?_)) <;> (first | refine AL.es 4 ?_ | (refine AL.gx (fun hb => ?_) (fun hb => ?_) <;> refine AL.es 4 ?_)) <;> (first | refine AL.es 4 ?_ | (refine AL.gx (fun hb => ?_) (fun hb => ?_) <;> refine AL.es 4 ?_)) <;> (first | refine AL.es 4 ?_ | (refine AL.gx (fun hb => ?_) (fun hb => ?_) <;> refine AL.es 4 ?_)) <;> (first | (refine AL.gd ?_; (first | refine AL.d AOp.la ?_ | refine AL.d (AOp.lw 0) ?_ | refine AL.d (AOp.lw 1) ?_)) | refine AL.gs ?_ | refine AL.gu ?_ | (refine AL.gx (fun hb => ?_) (fun hb => ?_) <;> first | (refine AL.gd ?_; (first | refine AL.d AOp.la ?_ | refine AL.d (AOp.lw 0) ?_ | refine AL.d (AOp.lw 1) ?_)) | refine AL.gs ?_)) <;> (first | (refine AL.gd ?_; (first | refine AL.d AOp.la ?_ | refine AL.d (AOp.lw 0) ?_ | refine AL.d (AOp.lw 1) ?_)) | refine AL.gs ?_ | refine AL.gu ?_) <;> (first | (refine AL.gd ?_; refine AL.d (AOp.call rfl rfl (hS.pure _)) ?_) | refine AL.gs ?_ | refine AL.gu ?_) <;> refine AL.es 3 ?_ <;> (first | refine AL.es 5 ?_ | (refine AL.gx (fun hb => ?_) (fun hb => ?_) <;> refine AL.es 5 ?_)) <;> (first | refine AL.es 5 ?_ | (refine AL.gx (fun hb => ?_) (fun hb => ?_) <;> refine AL.es 5 ?_)) <;> (first | refine AL.es 2 ?_ | (refine AL.gx (fun hb => ?_) (fun hb => ?_) <;> refine AL.es 2 ?_)) <;> (first | (refine AL.gd ?_; refine AL.d AOp.ad ?_) | refine AL.gs ?_ | refine AL.gu ?_) <;> refine AL.es 3 ?_ <;> (first | refine AL.es 2 ?_ | (refine AL.gx (fun hb => ?_) (fun hb => ?_) <;> refine AL.es 2 ?_)) <;> (first | refine AL.es 5 ?_ | (refine AL.gx (fun hb => ?_) (fun hb => ?_) <;> refine AL.es 5 ?_)) <;> refine AL.nil ?_) | refine AW.re 14 1 ?_ | refine AW.jt ?_ | refine AW.jf ?_ | refine AW.jj (fun hb => ?_) (fun hb => ?_) | refine AW.go ?_ | fail)
     all_goals first
      | (exfalso; simp at hb; done)
      | (exfalso; have h4 := w4 rfl; rw [bne_iff_ne] at hb; omega)
      | (exfalso; clear hgo hgs hgv hcp ho hv hsh; simp only [dT, dF, bne_iff_ne, ne_eq, bne_eq_false_iff_eq, not_true_eq_false] at *; omega)
      | exact AW.drop (List.sublist_cons_self _ _) (AW.meet [3, 4, 5, 7] ⟨rfl, rfl⟩)
      | fail
   rintro _ _ ⟨rfl, rfl⟩
   repeat' (first | (refine AW.r 15 ?_; (first | refine AL.d AOp.la ?_ | refine AL.d (AOp.lw 0) ?_) <;> (first | refine AL.d AOp.fa ?_ | refine AL.d (AOp.fr 0) ?_) <;> (first | refine AL.d AOp.la ?_ | refine AL.d (AOp.ll 0) ?_) <;> (first | refine AL.d AOp.fa ?_ | refine AL.d (AOp.fr 1) ?_) <;> (first | refine AL.d AOp.la ?_ | refine AL.d (AOp.ll 0) ?_) <;> refine AL.d (AOp.lit (e := 9) (sz := 1) (by kernel_rfl) rfl rfl rfl (P_cons rfl (P_one rfl)) (by decide)) ?_ <;> (first | refine AL.d (AOp.call rfl rfl (hfree.pure _)) ?_ | refine AL.d (AOp.call rfl rfl (hAl.pure _)) ?_) <;> refine AL.es 1 ?_ <;> refine AL.nil ?_) | refine AW.re 16 3 ?_ | (refine AW.r 17 ?_; (first | refine AL.d (AOp.call rfl rfl (hfree.pure _)) ?_ | refine AL.d (AOp.call rfl rfl (hAl.pure _)) ?_) <;> refine AL.es 1 ?_ <;> refine AL.nil ?_) | refine AW.jt ?_ | refine AW.jf ?_ | refine AW.jj (fun hb => ?_) (fun hb => ?_) | refine AW.go ?_ | fail)
   ·exact AW.ret_drop rfl (List.nil_sublist _) ⟨rfl, rfl⟩
   have hv4 : vs.length ≤ 4 := by simp only [lM, dF] at hb; omega
   have hEf := hEf (by omega)
   have hEg := hEg (by omega)
   have hE1 := Tri.pureE hEf [.box r7 g.st]
   have hE2 := Tri.pureE hEg [.box r7 g.st]
   repeat' (first | (refine AW.r 18 ?_; (first | refine AL.d AOp.la ?_ | refine AL.d (AOp.lw 0) ?_) <;> (first | refine AL.d AOp.la ?_ | refine AL.d (AOp.lw 0) ?_) <;> refine AL.es 1 ?_ <;> refine AL.callQ rfl rfl hE1 rfl ?_ ?_; rotate_left; rintro _ _ ⟨_, ⟨_, _, e, _⟩, _⟩; cases e; rintro _ _ ⟨_, ⟨v1, b1, e, rfl, hq1⟩, rfl⟩; injection e with e; subst e <;> refine AL.es 5 ?_ <;> refine AL.nil ?_) | refine AW.jt ?_ | refine AW.jf ?_ | refine AW.jj (fun hb => ?_) (fun hb => ?_) | refine AW.go ?_ | fail)
   repeat' (first | (refine AW.r 19 ?_; (first | refine AL.d AOp.la ?_ | refine AL.d (AOp.lw 0) ?_) <;> (first | refine AL.d AOp.la ?_ | refine AL.d (AOp.lw 0) ?_) <;> refine AL.es 1 ?_ <;> refine AL.callQ rfl rfl hE2 rfl ?_ ?_; rotate_left; rintro _ _ ⟨_, ⟨_, _, e, _⟩, _⟩; cases e; rintro _ _ ⟨_, ⟨v2, b2, e, rfl, hq2⟩, rfl⟩; injection e with e; subst e <;> refine AL.es 5 ?_ <;> refine AL.nil ?_) | refine AW.jt ?_ | refine AW.jf ?_ | refine AW.jj (fun hb => ?_) (fun hb => ?_) | refine AW.go ?_ | fail)
   cases b1 with
   | false =>
    repeat' (first | (refine xS 20 3 ?_; (first | refine AL.es 3 ?_ | (refine AL.gx (fun hb => ?_) (fun hb => ?_) <;> refine AL.es 3 ?_)) <;> refine AL.nil ?_) | (refine AW.r 21 ?_; refine AL.d (AOp.call rfl rfl (hAl.pure _)) ?_; refine xN 1 ?_) | refine AW.jt ?_ | refine AW.jf ?_ | refine AW.jj (fun hb => ?_) (fun hb => ?_) | refine AW.go ?_ | fail)
    exact AW.ret_drop rfl (List.nil_sublist _) ⟨rfl, rfl⟩
   | true =>
    cases b2 with
    | false =>
     repeat' (first | (refine xS 20 3 ?_; (first | refine AL.es 3 ?_ | (refine AL.gx (fun hb => ?_) (fun hb => ?_) <;> refine AL.es 3 ?_)) <;> refine AL.nil ?_) | (refine AW.r 21 ?_; refine AL.d (AOp.call rfl rfl (hAl.pure _)) ?_; refine xN 1 ?_) | refine AW.jt ?_ | refine AW.jf ?_ | refine AW.jj (fun hb => ?_) (fun hb => ?_) | refine AW.go ?_ | fail)
     exact AW.ret_drop rfl (List.nil_sublist _) ⟨rfl, rfl⟩
    | true =>
     obtain ⟨N, s1, p1, e1⟩ := hq1 rfl
     obtain ⟨N', s2, p2, e2⟩ := hq2 rfl
     obtain rfl : N = N' := by have := s1.size; have := s2.size; omega
     have hTu := ref_Tuples N vs.length ⟨s1.n1, s1.n2⟩ (by omega) p1
     have hans := hans N s1.n1 (strT N s)
     have l1 := qryL_len N 6000 f0 (strT N s) vs (N ^ vs.length)
     have l2 := qryL_len N 6000 g (strT N s) vs (N ^ vs.length)
     have m1 := qryL_len2 N 6000 f0 (strT N s) vs (N ^ vs.length)
     have m2 := qryL_len2 N 6000 g (strT N s) vs (N ^ vs.length)
     rw [← hf0] at e1 hans
     subst e1
     subst e2
     generalize qryL N 6000 f0 (strT N s) vs (N ^ vs.length) = QF at *
     generalize qryL N 6000 g (strT N s) vs (N ^ vs.length) = QG at *
     have hvlen : ((vs.map AV.str).length : Int) = vs.length := by simp
     rw [← s1.size, ← hvlen] at hTu
     repeat' (first | (refine xS 20 3 ?_; (first | refine AL.es 3 ?_ | (refine AL.gx (fun hb => ?_) (fun hb => ?_) <;> refine AL.es 3 ?_)) <;> refine AL.nil ?_) | refine AW.re 22 2 ?_ | refine AW.re 23 1 ?_ | refine AW.jt ?_ | refine AW.jf ?_ | refine AW.jj (fun hb => ?_) (fun hb => ?_) | refine AW.go ?_ | fail)
     refine AW.prune [4, 5, 20, 21, 23, 25, 26, 27] (AW.loop (fun mz af h => ∃ (i : Nat), i ≤ vs.length ∧ mz = vs.length - i ∧ af = [(4, .at (.st [.str a, .str b])), (5, .at s.av), (20, strs vs), (21, .sl (QF.map ints)), (23, .sl (QG.map ints)), (25, .int .i64 (lstN vs a i)), (26, .int .i64 (lstN vs b i)), (27, .int .i64 i)] ∧ h = [.box r7 g.st] ∧ True) vs.length ⟨0, Nat.zero_le _, rfl, rfl, rfl, trivial⟩ ?_)
     rintro mz af h ⟨i, hi, rfl, rfl, rfl, he⟩
     refine AW.seq ?_
     by_cases hlt : i < vs.length
     ·obtain ⟨x, hx⟩ := get_lt hlt
      have hx' : (vs.map AV.str)[((i : Nat) : Int).toNat]? = some (.str x) := map_get hx
      repeat' (first | refine AW.re 24 4 ?_ | (refine AW.dq 26 ?_; refine AQ.es 2 ?_; refine AQ.p rfl (iX hx') ?_; (first | refine AQ.p rfl AOp.la ?_ | refine AQ.p rfl (AOp.ll 0) ?_) <;> (first | refine AQ.p rfl AOp.fa ?_ | refine AQ.p rfl (AOp.fr 0) ?_) <;> (first | refine AQ.p rfl AOp.la ?_ | refine AQ.p rfl (AOp.ll 0) ?_) <;> refine AQ.es 1 ?_ <;> refine AQ.nil ?_) | refine AW.re 27 2 ?_ | (refine AW.dq 28 ?_; refine AQ.es 2 ?_; refine AQ.p rfl (iX hx') ?_; (first | refine AQ.p rfl AOp.la ?_ | refine AQ.p rfl (AOp.ll 0) ?_) <;> (first | refine AQ.p rfl AOp.fa ?_ | refine AQ.p rfl (AOp.fr 1) ?_) <;> (first | refine AQ.p rfl AOp.la ?_ | refine AQ.p rfl (AOp.ll 0) ?_) <;> refine AQ.es 1 ?_ <;> refine AQ.nil ?_) | refine AW.re 29 2 ?_ | (refine xS 25 1 ?_; refine AL.d AOp.ad ?_; refine xN 1 ?_) | refine AW.jt ?_ | refine AW.jf ?_ | refine AW.jj (fun hb => ?_) (fun hb => ?_) | refine AW.go ?_ | fail)
      all_goals try (exfalso; simp only [dT, dF, lM] at *; omega)
      all_goals
       have eA : lstN vs a (i + 1) = if x = a then i else lstN vs a i := by rw [lstN, hx]; simp only [Option.some.injEq]
       have eB : lstN vs b (i + 1) = if x = b then i else lstN vs b i := by rw [lstN, hx]; simp only [Option.some.injEq]
       simp only [toList_beq, dT, dF] at *
       exact AW.again_keep (vs.length - (i + 1)) [4, 5, 20, 21, 23, 25, 26, 27] (by omega) ⟨i + 1, hlt, rfl, by
        rw [eA, eB]
        first | (rw [if_pos (by assumption), if_pos (by assumption)]; rfl) | (rw [if_pos (by assumption), if_neg (by assumption)]; rfl) | (rw [if_neg (by assumption), if_pos (by assumption)]; rfl) | (rw [if_neg (by assumption), if_neg (by assumption)]; rfl) | fail, rfl, trivial⟩
     ·obtain rfl : i = vs.length := by omega
      repeat' (first | refine AW.re 24 4 ?_ | refine AW.jt ?_ | refine AW.jf ?_ | refine AW.jj (fun hb => ?_) (fun hb => ?_) | refine AW.go ?_ | fail)
      all_goals try (exfalso; simp only [dT, dF, lM] at *; omega)
      repeat' (first | (refine AW.r 30 ?_; (first | refine AL.d AOp.fa ?_ | refine AL.d (AOp.fr 0) ?_) <;> (first | refine AL.d AOp.la ?_ | refine AL.d (AOp.ll 0) ?_) <;> refine AL.es 2 ?_ <;> refine AL.d (AOp.call rfl rfl (hTu.pure _)) ?_ <;> refine AL.es 1 ?_ <;> refine AL.nil ?_) | refine AW.re 31 1 ?_ | refine AW.jt ?_ | refine AW.jf ?_ | refine AW.jj (fun hb => ?_) (fun hb => ?_) | refine AW.go ?_ | fail)
      clear hTu hEf hEg hE1 hE2
      generalize N ^ vs.length = L at *
      have hA := (lstN_spec (s := a) (l := vs) (k := vs.length) (by rw [List.take_length]; exact hia)).1
      have hB := (lstN_spec (s := b) (l := vs) (k := vs.length) (by rw [List.take_length]; exact hib)).1
      generalize lstN vs a vs.length = A at *
      generalize lstN vs b vs.length = B at *
      have hlen : (((tupL N vs.length L).map ints).length : Int) = L := by rw [lM, tupL_len]
      refine AW.prune [21, 23, 25, 26, 28, 29] (AW.loop (fun mz af h => ∃ (i : Nat), i ≤ L ∧ mz = L - i ∧ af = [(21, .sl (QF.map ints)), (23, .sl (QG.map ints)), (25, .int .i64 A), (26, .int .i64 B), (28, .sl ((tupL N vs.length L).map ints)), (29, .int .i64 i)] ∧ h = [.box r7 g.st] ∧ True) L ⟨0, Nat.zero_le _, rfl, rfl, rfl, trivial⟩ ?_)
      rintro mz af h ⟨i, hi, rfl, rfl, rfl, he⟩
      refine AW.seq ?_
      by_cases hlt : i < L
      ·have hx' : ((tupL N vs.length L).map ints)[((i : Nat) : Int).toNat]? = some (ints (tup N vs.length i)) := map_get (tupL_get hlt)
       have htl := tup_len N vs.length i
       have htm : ∀ y ∈ tup N vs.length i, 0 ≤ y ∧ y < N := fun y hy => tup_mem s1.n1 _ _ y hy
       generalize tup N vs.length i = u at *
       obtain ⟨y, hy⟩ := get_lt (show B < u.length by omega)
       have hq := hans u y htl htm hy
       have hAu := ref_AmongT QG u (by omega) (fun t ht => by have := m2 t ht; omega) (by omega)
       have hAt := ref_AmongT QF (u.set A y) (by omega) (fun t ht => by have := m1 t ht; omega) (by rw [List.length_set]; omega)
       rw [hq] at hAu
       have hy' : (u.map iav)[((B : Nat) : Int).toNat]? = some (iav y) := map_get hy
       have hst : ((A : Nat) : Int).toNat < (u.map iav).length := by rw [lM]; omega
       repeat' (first | refine AW.re 32 4 ?_ | (refine AW.r 34 ?_; refine AL.lit_own (e := 3) (sz := 1) (by kernel_rfl) rfl rfl rfl P_nil (by decide) rfl fun b0 => ?_; refine AL.es 2 ?_; refine AL.d (iX hx') ?_; (first | refine AL.d AOp.la ?_ | refine AL.d (AOp.ll 0) ?_ | refine AL.d (AOp.ll 1) ?_) <;> refine AL.append_new 0 (e := 3) (bytes := 8) (ys := u.map iav) (n := u.length) rfl rfl rfl rfl (by rw [lM]) (by omega) (P_map fun _ => rfl) (by kernel_rfl) (by kernel_rfl) (by omega) (by omega) rfl fun b' c' hc' => ?_ <;> refine AL.es 1 ?_ <;> refine AL.nil ?_) | refine AW.jt ?_ | refine AW.jf ?_ | refine AW.jj (fun hb => ?_) (fun hb => ?_) | refine AW.go ?_ | fail)
       all_goals try (exfalso; simp only [dT, dF, lM] at *; omega)
       repeat' (first | (refine xS 35 4 ?_; refine AL.d (AOp.index_osl rfl rfl (by omega) (by omega) (by kernel_rfl)) ?_; (first | refine AL.d (AOp.load_cell 0 rfl rfl hy' rfl (by kernel_rfl)) ?_ | refine AL.d AOp.la ?_ | refine AL.d (AOp.ll 0) ?_ | refine AL.d (AOp.ll 1) ?_) <;> refine AL.d (AOp.index_osl rfl rfl (by omega) (by omega) (by kernel_rfl)) ?_ <;> (first | refine AL.store_cell 0 rfl rfl rfl hst rfl rfl (by kernel_rfl) ?_ | refine AL.sl 0 ?_ | refine AL.sl 1 ?_) <;> refine AL.nil ?_) | refine AW.jt ?_ | refine AW.jf ?_ | refine AW.jj (fun hb => ?_) (fun hb => ?_) | refine AW.go ?_ | fail)
       have e5 : (u.map iav).set ((A : Nat) : Int).toNat (iav y) = (u.set A y).map iav := by rw [Int.toNat_natCast, List.map_set]
       rw [e5]
       refine AW.freeze_row 0 30 rfl rfl (by simp) (P_map fun _ => rfl) ?_
       generalize u.set A y = t5 at *
       generalize decide (t5 ∈ QF) = P at *
       repeat' (first | (refine xS 36 3 ?_; refine AL.d (iX hx') ?_; (first | refine AL.d AOp.la ?_ | refine AL.d (AOp.ll 0) ?_) <;> (first | refine AL.d (AOp.call rfl rfl (hAu.pure _)) ?_ | refine AL.d (AOp.call rfl rfl (hAt.pure _)) ?_) <;> refine AL.es 2 ?_ <;> (first | refine AL.d (AOp.call rfl rfl (hAu.pure _)) ?_ | refine AL.d (AOp.call rfl rfl (hAt.pure _)) ?_) <;> (first | refine AL.e ?_ | refine AL.d AOp.bn ?_) <;> refine AL.nil ?_) | refine AW.re 37 1 ?_ | (refine xS 33 1 ?_; refine AL.d AOp.ad ?_; refine xN 1 ?_) | refine AW.jt ?_ | refine AW.jf ?_ | refine AW.jj (fun hb => ?_) (fun hb => ?_) | refine AW.go ?_ | fail)
       ·exfalso; simp at hb
       ·refine AW.again_keep (L - (i + 1)) [21, 23, 25, 26, 28, 29] (by omega) ⟨i + 1, hlt, rfl, rfl, rfl, ?_⟩
        trivial
      ·repeat' (first | refine AW.re 32 4 ?_ | (refine AW.r 38 ?_; refine AL.d (AOp.call rfl rfl (hAl.pure _)) ?_; refine xN 1 ?_) | refine AW.jt ?_ | refine AW.jf ?_ | refine AW.jj (fun hb => ?_) (fun hb => ?_) | refine AW.go ?_ | fail)
       all_goals try (exfalso; simp only [dT, dF, lM] at *; omega)
       exact AW.ret_drop rfl (List.nil_sublist _) ⟨rfl, rfl⟩
  ·have hP : renP a b f = noF := by unfold renP; rw [show (renE a b f == 0) = false by simpa using hE]; rfl
   rw [hP] at hN
   generalize renE a b f = E at *
   obtain ⟨k, ar, nm, vars, args, kids⟩ := f
   refine Tri.enter 242 Tryz.func4 rfl rfl rfl rfl fun Fr w0 => ?_
   repeat' (first | (refine AW.r 0 ?_; (first | refine AL.d (AOp.box_ro rfl rfl) ?_ | refine AL.d (AOp.box_ro rfl rfl) ?_) <;> (first | refine AL.d (AOp.box_ro rfl rfl) ?_ | refine AL.d (AOp.box_ro rfl rfl) ?_) <;> (first | refine AL.d (AOp.box_ro rfl rfl) ?_ | refine AL.d (AOp.box_ro rfl rfl) ?_) <;> refine AL.es 1 ?_ <;> refine AL.nil ?_) | (refine AW.r 1 ?_; (first | refine AL.d AOp.la ?_ | refine AL.d (AOp.lw 0) ?_) <;> (first | refine AL.d (AOp.lit (e := 25) (sz := 6) (by kernel_rfl) rfl rfl rfl (P_one rfl) (by decide)) ?_ | refine AL.d (AOp.lit (e := 28) (sz := 2) (by kernel_rfl) rfl rfl rfl (P_one rfl) (by decide)) ?_) <;> (first | (refine AL.callQ rfl rfl hFS rfl ?_ ?_; rotate_left; rintro _ _ ⟨_, e, _⟩; cases e; rintro _ _ ⟨b, e, rfl⟩; injection e with e; subst e; cases b) | refine AL.d (AOp.call rfl rfl hF) ?_ | refine AL.d (AOp.call rfl rfl hAl) ?_) <;> refine AL.es 2 ?_ <;> (first | (refine AL.gd ?_; (first | refine AL.d AOp.fa ?_ | refine AL.d (AOp.fr 0) ?_)) | refine AL.gs ?_ | refine AL.gu ?_ | (refine AL.gx (fun hb => ?_) (fun hb => ?_) <;> first | (refine AL.gd ?_; (first | refine AL.d AOp.fa ?_ | refine AL.d (AOp.fr 0) ?_)) | refine AL.gs ?_)) <;> (first | (refine AL.gd ?_; (first | refine AL.d AOp.la ?_ | refine AL.d (AOp.ll 0) ?_)) | refine AL.gs ?_ | refine AL.gu ?_) <;> refine AL.es 1 ?_ <;> (first | (refine AL.gd ?_; (first | refine AL.d AOp.fa ?_ | refine AL.d (AOp.fr 1) ?_)) | refine AL.gs ?_ | refine AL.gu ?_) <;> (first | (refine AL.gd ?_; (first | refine AL.d AOp.la ?_ | refine AL.d (AOp.ll 0) ?_)) | refine AL.gs ?_ | refine AL.gu ?_) <;> refine AL.es 1 ?_ <;> (first | (refine AL.gd ?_; (first | refine AL.d (AOp.add rfl rfl (by omega)) ?_ | refine AL.d AOp.ad ?_)) | refine AL.gs ?_ | refine AL.gu ?_) <;> refine AL.es 3 ?_ <;> (first | (refine AL.gd ?_; (first | refine AL.d AOp.la ?_ | refine AL.d (AOp.lw 0) ?_)) | refine AL.gs ?_ | refine AL.gu ?_ | (refine AL.gx (fun hb => ?_) (fun hb => ?_) <;> first | (refine AL.gd ?_; (first | refine AL.d AOp.la ?_ | refine AL.d (AOp.lw 0) ?_)) | refine AL.gs ?_)) <;> (first | (refine AL.gd ?_; (first | refine AL.d (AOp.lit (e := 25) (sz := 6) (by kernel_rfl) rfl rfl rfl (P_one rfl) (by decide)) ?_ | refine AL.d (AOp.lit (e := 28) (sz := 2) (by kernel_rfl) rfl rfl rfl (P_one rfl) (by decide)) ?_)) | refine AL.gs ?_ | refine AL.gu ?_) <;> (first | (refine AL.gd ?_; (first | (refine AL.callQ rfl rfl hFS rfl ?_ ?_; rotate_left; rintro _ _ ⟨_, e, _⟩; cases e; rintro _ _ ⟨b, e, rfl⟩; injection e with e; subst e; cases b) | refine AL.d (AOp.call rfl rfl hF) ?_ | refine AL.d (AOp.call rfl rfl hAl) ?_)) | refine AL.gs ?_ | refine AL.gu ?_) <;> refine AL.es 2 ?_ <;> refine AL.nil ?_) | (refine AW.r 2 ?_; (first | (refine AL.callQ rfl rfl hFS rfl ?_ ?_; rotate_left; rintro _ _ ⟨_, e, _⟩; cases e; rintro _ _ ⟨b, e, rfl⟩; injection e with e; subst e; cases b) | refine AL.d (AOp.call rfl rfl hF) ?_ | refine AL.d (AOp.call rfl rfl hAl) ?_) <;> refine AL.es 1 ?_ <;> refine AL.nil ?_) | refine AW.jt ?_ | refine AW.jf ?_ | refine AW.jj (fun hb => ?_) (fun hb => ?_) | refine AW.go ?_ | fail)
   all_goals first | exact AW.retv rfl ⟨rfl, rfl⟩ | skip
   repeat' (first | (refine AW.r 3 ?_; (first | refine AL.d AOp.la ?_ | refine AL.d (AOp.lw 0) ?_) <;> (first | refine AL.d AOp.fa ?_ | refine AL.d (AOp.fr 0) ?_) <;> (first | refine AL.d AOp.la ?_ | refine AL.d (AOp.ll 0) ?_) <;> (first | refine AL.d AOp.fa ?_ | refine AL.d (AOp.fr 1) ?_) <;> (first | refine AL.d AOp.la ?_ | refine AL.d (AOp.ll 0) ?_) <;> (first | refine AL.d (AOp.call rfl rfl hN) ?_ | refine AL.d (AOp.call rfl rfl (hAl.pure _)) ?_) <;> refine AL.es 3 ?_ <;> refine AL.alloc_z (t := 25) zF (by kernel_rfl) rfl rfl fun r7 => ?_ <;> refine AL.sl 0 ?_ <;> refine AL.es 1 ?_ <;> refine AL.nil ?_) | refine AW.re 4 2 ?_ | (refine AW.r 5 ?_; (first | refine AL.d (AOp.call rfl rfl hN) ?_ | refine AL.d (AOp.call rfl rfl (hAl.pure _)) ?_) <;> refine AL.es 1 ?_ <;> refine AL.nil ?_) | refine AW.jt ?_ | refine AW.jf ?_ | refine AW.jj (fun hb => ?_) (fun hb => ?_) | refine AW.go ?_ | fail)
   ·exact AW.ret_drop rfl (List.nil_sublist _) ⟨rfl, rfl⟩
   ·exfalso; simp at hb; exact hE hb
 ·rw [decide_eq_false hfew] at hF
  obtain ⟨k, ar, nm, vars, args, kids⟩ := f
  refine Tri.enter 242 Tryz.func4 rfl rfl rfl rfl fun Fr w0 => ?_
  repeat' (first | (refine AW.r 0 ?_; (first | refine AL.d (AOp.box_ro rfl rfl) ?_ | refine AL.d (AOp.box_ro rfl rfl) ?_) <;> (first | refine AL.d (AOp.box_ro rfl rfl) ?_ | refine AL.d (AOp.box_ro rfl rfl) ?_) <;> (first | refine AL.d (AOp.box_ro rfl rfl) ?_ | refine AL.d (AOp.box_ro rfl rfl) ?_) <;> refine AL.es 1 ?_ <;> refine AL.nil ?_) | (refine AW.r 1 ?_; (first | refine AL.d AOp.la ?_ | refine AL.d (AOp.lw 0) ?_) <;> refine AL.d (AOp.lit (e := 25) (sz := 6) (by kernel_rfl) rfl rfl rfl (P_one rfl) (by decide)) ?_ <;> (first | refine AL.d (AOp.call rfl rfl hF) ?_ | refine AL.d (AOp.call rfl rfl hAl) ?_) <;> refine AL.es 2 ?_ <;> (first | (refine AL.gd ?_; (first | refine AL.d AOp.fa ?_ | refine AL.d (AOp.fr 0) ?_)) | refine AL.gs ?_ | refine AL.gu ?_ | (refine AL.gx (fun hb => ?_) (fun hb => ?_) <;> first | (refine AL.gd ?_; (first | refine AL.d AOp.fa ?_ | refine AL.d (AOp.fr 0) ?_)) | refine AL.gs ?_)) <;> (first | (refine AL.gd ?_; (first | refine AL.d AOp.la ?_ | refine AL.d (AOp.ll 0) ?_)) | refine AL.gs ?_ | refine AL.gu ?_) <;> refine AL.es 1 ?_ <;> (first | (refine AL.gd ?_; (first | refine AL.d AOp.fa ?_ | refine AL.d (AOp.fr 1) ?_)) | refine AL.gs ?_ | refine AL.gu ?_) <;> (first | (refine AL.gd ?_; (first | refine AL.d AOp.la ?_ | refine AL.d (AOp.ll 0) ?_)) | refine AL.gs ?_ | refine AL.gu ?_) <;> refine AL.es 1 ?_ <;> (first | (refine AL.gd ?_; (first | refine AL.d (AOp.add rfl rfl (by omega)) ?_ | refine AL.d AOp.ad ?_)) | refine AL.gs ?_ | refine AL.gu ?_) <;> refine AL.es 3 ?_ <;> (first | (refine AL.gd ?_; (first | refine AL.d AOp.la ?_ | refine AL.d (AOp.lw 0) ?_)) | refine AL.gs ?_ | refine AL.gu ?_ | (refine AL.gx (fun hb => ?_) (fun hb => ?_) <;> first | (refine AL.gd ?_; (first | refine AL.d AOp.la ?_ | refine AL.d (AOp.lw 0) ?_)) | refine AL.gs ?_)) <;> (first | (refine AL.gd ?_; refine AL.d (AOp.lit (e := 25) (sz := 6) (by kernel_rfl) rfl rfl rfl (P_one rfl) (by decide)) ?_) | refine AL.gs ?_ | refine AL.gu ?_) <;> (first | (refine AL.gd ?_; (first | refine AL.d (AOp.call rfl rfl hF) ?_ | refine AL.d (AOp.call rfl rfl hAl) ?_)) | refine AL.gs ?_ | refine AL.gu ?_) <;> refine AL.es 2 ?_ <;> refine AL.nil ?_) | (refine AW.r 2 ?_; (first | refine AL.d (AOp.call rfl rfl hF) ?_ | refine AL.d (AOp.call rfl rfl hAl) ?_) <;> refine AL.es 1 ?_ <;> refine AL.nil ?_) | refine AW.jt ?_ | refine AW.jf ?_ | refine AW.jj (fun hb => ?_) (fun hb => ?_) | refine AW.go ?_ | fail)
  exact AW.retv rfl ⟨rfl, rfl⟩
section
variable {H : Type} {enc : TypeId × Value → H} {w : World}
theorem rdInt (N : Nat) : Rd enc Tryz.prog w N 3 iav iOk := Rd.int' (by kernel_rfl)
theorem rdStr (N : Nat) : Rd enc Tryz.prog w N 9 AV.str strOk := Rd.str' (by kernel_rfl)
theorem rdStrs (N : Nat) : Rd enc Tryz.prog w N 22 strs (lenOk 16 strOk) := Rd.slice' (by kernel_rfl) (rdStr N)
theorem rdFml : ∀ N : Nat, Rd enc Tryz.prog w N 25 GFml.av GFml.Ok := Rd.all fun N ih =>
 Rd.of_q (RdQ.struct' (by kernel_rfl) (.cons (rdInt N).q (.cons (rdInt N).q (.cons (rdStr N).q (.cons (rdStrs N).q (.cons (rdStrs N).q (.cons (Rd.slice' (T := 23) (n := 104) (by kernel_rfl) ih).q (.nil)))))))) fun v h => by
  obtain ⟨vs, rfl, h⟩ := h
  obtain ⟨_, v1, rfl, ⟨a, rfl, ha⟩, h1⟩ := h.un
  obtain ⟨_, v2, rfl, ⟨b, rfl, hb⟩, h2⟩ := h1.un
  obtain ⟨_, v3, rfl, ⟨c, rfl, hc⟩, h3⟩ := h2.un
  obtain ⟨_, v4, rfl, ⟨d, rfl, hd⟩, h4⟩ := h3.un
  obtain ⟨_, v5, rfl, ⟨e, rfl, he⟩, h5⟩ := h4.un
  obtain ⟨_, v6, rfl, ⟨f, rfl, hf⟩, h6⟩ := h5.un
  obtain rfl := h6.un0
  exact ⟨⟨a, b, c, d, e, f⟩, by rw [GFml.av_eq]; rfl, .mk ⟨ha, hb, hc, hd, he⟩ hf.1 hf.2⟩
theorem rdNames : ∀ N : Nat, Rd enc Tryz.prog w N 39 (fun x : ByteArray × ByteArray => .st [.str x.1, .str x.2]) (fun x => strOk x.1 ∧ strOk x.2) := Rd.of_succ fun N =>
 Rd.of_q (RdQ.struct' (by kernel_rfl) (.cons (rdStr N).q (.cons (rdStr N).q .nil))) fun v h => by
  obtain ⟨vs, rfl, h⟩ := h
  obtain ⟨_, v1, rfl, ⟨a, rfl, ha⟩, h1⟩ := h.un
  obtain ⟨_, v2, rfl, ⟨b, rfl, hb⟩, h2⟩ := h1.un
  obtain rfl := h2.un0
  exact ⟨⟨a, b⟩, rfl, ha, hb⟩
end
section
variable {S S' : Rg} {w : World} {G : Nat}
end
section
variable {H : Type} {enc : TypeId × Value → H} {w : World}
theorem rdInts (N : Nat) : Rd enc Tryz.prog w N 52 ints (lenOk 8 iOk) := Rd.slice' (by kernel_rfl) (rdInt N)
theorem rdIntss (N : Nat) : Rd enc Tryz.prog w N 48 (fun l => .sl (l.map ints)) (lenOk 24 (lenOk 8 iOk)) := Rd.slice' (by kernel_rfl) (rdInts N)
theorem rdRel : ∀ N : Nat, Rd enc Tryz.prog w N 78 GRel.av GRel.Ok := Rd.of_succ fun N =>
 Rd.of_q (RdQ.struct' (by kernel_rfl) (.cons (rdStr N).q (.cons (rdInt N).q (.cons (rdIntss N).q (.nil))))) fun v h => by
  obtain ⟨vs, rfl, h⟩ := h
  obtain ⟨_, v1, rfl, ⟨a, rfl, ha⟩, h1⟩ := h.un
  obtain ⟨_, v2, rfl, ⟨b, rfl, hb⟩, h2⟩ := h1.un
  obtain ⟨_, v3, rfl, ⟨c, rfl, hc⟩, h3⟩ := h2.un
  obtain rfl := h3.un0
  exact ⟨⟨a, b, c⟩, rfl, ha, hb, hc⟩
theorem rdStr_ : ∀ N : Nat, Rd enc Tryz.prog w N 28 GStr.av GStr.Ok := Rd.of_succ fun N =>
 Rd.of_q (RdQ.struct' (by kernel_rfl) (.cons (rdInt N).q (.cons (Rd.slice' (T := 26) (n := 48) (by kernel_rfl) (rdRel N)).q (.nil)))) fun v h => by
  obtain ⟨vs, rfl, h⟩ := h
  obtain ⟨_, v1, rfl, ⟨a, rfl, ha⟩, h1⟩ := h.un
  obtain ⟨_, v2, rfl, ⟨b, rfl, hb⟩, h2⟩ := h1.un
  obtain rfl := h2.un0
  exact ⟨⟨a, b⟩, rfl, ha, hb⟩
end
end Go.Proofs.YtlpndgodkkndnaaGreatDoor
