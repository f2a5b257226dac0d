/- Contracts of the functions, part 3. -/
import Derived.Test.YtlpndgodkkndnaaGreatDoorA2
import Derived.Test.YtlpndgodkkndnaaGreatDoorA2
import Derived.Test.YtlpndgodkkndnaaGreatDoorS2
import Derived.Test.YtlpndgodkkndnaaGreatDoorA1
import Derived.Test.YtlpndgodkkndnaaGreatDoorS3
namespace Go.Proofs.YtlpndgodkkndnaaGreatDoor
open Go.RowKit Go.SX
set_option maxRecDepth 100000
set_option maxHeartbeats 4000000
set_option linter.unusedVariables false
set_option linter.unusedSimpArgs false
theorem permW0 {α : Type} (w a b n t : α) (R : List α) : ([w, a, b] ++ (n :: t :: R)).Perm (n :: w :: t :: a :: b :: R) :=
 ((List.perm_append_comm (l₁ := [w, a, b]) (l₂ := [n, t])).append_right R).trans (.cons _ (.swap _ _ _))
theorem permW1 {α : Type} (y w a b n t : α) (R : List α) : ([y, w, a, b] ++ (n :: t :: R)).Perm (y :: n :: w :: t :: a :: b :: R) := .cons _ (permW0 w a b n t R)
theorem Tri.ahead {P : Program} {f : FuncId} {args : List AV} {b : AH} {Φ : AEnd → AH → Prop} (h : Tri P f args b Φ) (a : AH) : Tri P f args (a ++ b) (fun x h => ∃ h1, Φ x h1 ∧ h = a ++ h1) := by
 have := h.around a []
 simpa using this
theorem w_With_ro (bw : Nat) (K : NT → Prop) (v : Bool) (n : NT) (s : WS) (names : List ByteArray) (at_ : List Int) (hs : s.Ok) (hl : at_.length = names.length) (hn : s.ns.length + names.length ≤ 100000) (hat : ∀ x ∈ at_, 0 ≤ x ∧ x < s.N)
  (hK : ∀ s', s'.Ok → s'.N = s.N → s'.base = s.base → s'.ts = s.ts → s'.ns = s.ns ++ names → s'.vs = s.vs ++ at_ → Tri Tryz.prog 155 [.ref bw 0, .ref n.b 0] (hH bw s' n) (HPost bw s' n K (.bool v) [])) :
  Tri Tryz.prog 118 [.ref bw 0, strs names, ints at_, .ref n.b 0] (hH bw s n) (HPost bw s n K (.bool v) []) := by
 have hs0 := hs
 obtain ⟨n1, n2, t1, t2, t3, m1, m2, m3, v1, v2, v3, v4⟩ := hs
 have hlm : (at_.map iav).length = at_.length := lM _
 have hr1 : ∀ y ∈ names.map AV.str, y.size = 1 := all_map fun _ => rfl
 have hr2 : AV.cellsOK (names.map AV.str) = true := ok_all fun _ hy => by obtain ⟨_, _, rfl⟩ := List.mem_map.1 hy; rfl
 have hr3 : ∀ y ∈ at_.map iav, y.size = 1 := all_map fun _ => rfl
 have hr4 : AV.cellsOK (at_.map iav) = true := ok_all fun _ hy => by obtain ⟨_, _, rfl⟩ := List.mem_map.1 hy; rfl
 refine Tri.enter 56 Tryz.func118 rfl rfl rfl rfl fun Fr w0 => ?_
 repeat' (first | refine AW.re 0 1 ?_ | (refine xS 1 2 ?_; refine AL.d (AOp.fr 3) ?_; refine AL.d (AOp.ll 1) ?_; refine AL.d (AOp.len_val (by kernel_rfl) rfl) ?_; refine xN 1 ?_) | fail)
 refine AW.seq ?_
 refine AW.cut (fun af h => ∃ o1 c1 tl1 o2 c2 tl2, af = [(0, .ref bw 0), (3, .ref n.b 0), (9, .int .i64 s.ns.length)] ∧ h = [Own.box bw (.st [.int .i64 s.N, .int .i64 s.base, bfV s.to s.ts.length s.tc, bfV o1 (s.ns.length + (names.map AV.str).length) c1, bfV o2 (s.vs.length + (at_.map iav).length) c2, .bool s.long]), bfO o1 (s.ns.map AV.str ++ names.map AV.str ++ tl1), bfO o2 (s.vs.map iav ++ at_.map iav ++ tl2)] ++ (n.bx :: bfO s.to (tcells s.ts ++ s.tt) :: (s.ts.map TE.row ++ n.rest)) ∧ ((s.ns.map AV.str).length + (names.map AV.str).length + tl1.length = c1 * 1 ∧ (o1 = none → s.ns.length + (names.map AV.str).length = 0 ∧ c1 = 0) ∧ s.ns.length + (names.map AV.str).length ≤ c1) ∧ (s.vs.map iav).length + (at_.map iav).length + tl2.length = c2 * 1 ∧ (o2 = none → s.vs.length + (at_.map iav).length = 0 ∧ c2 = 0) ∧ s.vs.length + (at_.map iav).length ≤ c2) ?_ ?_
 ·repeat' (first | fail)
  refine AW.explore [false, true, false, true, true] [5, 7, 11, 13, 16, 19] rfl (by kernel_rfl) (by kernel_rfl) (by kernel_rfl) (by kernel_rfl) ?_
  refine AQE.ev rfl rfl rfl rfl ?_
  refine AQE.ev rfl rfl rfl rfl ?_
  refine AQE.ev rfl rfl rfl rfl ?_
  refine AQE.ev rfl rfl rfl rfl ?_
  first | refine AQE.op rfl AOp.fa rfl rfl ?_ | refine AQE.op rfl (AOp.fr 3) rfl rfl ?_
  refine AQE.hole rfl rfl ?_
  refine AQE.ev rfl rfl rfl rfl ?_
  refine AQE.hole rfl rfl ?_
  refine AQE.ev rfl rfl rfl rfl ?_
  refine AQE.ev rfl rfl rfl rfl ?_
  first | refine AQE.op rfl AOp.fa rfl rfl ?_ | refine AQE.op rfl (AOp.fr 4) rfl rfl ?_
  refine AQE.hole rfl rfl ?_
  refine AQE.ev rfl rfl rfl rfl ?_
  refine AQE.hole rfl rfl ?_
  refine AQE.ev rfl rfl rfl rfl ?_
  first | refine AQE.op rfl AOp.fa rfl rfl ?_ | refine AQE.op rfl (AOp.fr 3) rfl rfl ?_
  refine AQE.hole rfl rfl ?_
  refine AQE.ev rfl rfl rfl rfl ?_
  first | refine AQE.op rfl AOp.fa rfl rfl ?_ | refine AQE.op rfl (AOp.fr 4) rfl rfl ?_
  refine AQE.hole rfl rfl ?_
  refine AQE.nil ?_
  repeat' (first | refine AX.two (n := 5) 5 11 rfl ?_ ?_ | refine AX.one (n := 4) 5 rfl ?_ | refine AX.two (n := 4) 7 11 rfl ?_ ?_ | refine AX.one (n := 3) 7 rfl ?_ | refine AX.one (n := 3) 11 rfl ?_ | refine AX.one (n := 2) 13 rfl ?_ | refine AX.one (n := 1) 16 rfl ?_ | refine AX.one (n := 0) 19 rfl ?_ | (refine AXS.det (i := 5) rfl rfl rfl (AOp.ll 0) ?_; dsimp only [sA, sB, sC, sD]) | (refine AXS.step (i := 7) rfl rfl rfl (AOp.append_bf 1 1 (o := s.no) (n := s.ns.length) (c := s.nc) (us := s.ns.map AV.str) (tl := s.nt) (ys := names.map AV.str) (m := (names.map AV.str).length) (e := 9) (bytes := 16) rfl rfl (by rw [lM]; omega) (by rw [lM]; omega) m2 (SrcC.ro (v := strs names) rfl rfl hr1) (by omega) hr1 hr2 (by omega) (by kernel_rfl) (by kernel_rfl) (by rw [lM]; omega) (by rw [lM]; omega)) ?_ (by rintro _ _ ⟨_, _, _, e, _⟩; cases e); rintro _ _ ⟨o1, c1, tl1, e, rfl, q1, q2, q3⟩; injection e with e; subst e; dsimp only [sA, sB, sC, sD]) | (refine AXS.det (i := 11) rfl rfl rfl (AOp.ll 0) ?_; dsimp only [sA, sB, sC, sD]) | (refine AXS.step (i := 13) rfl rfl rfl (AOp.append_bf 2 1 (o := s.vo) (n := s.vs.length) (c := s.vc) (us := s.vs.map iav) (tl := s.vt) (ys := at_.map iav) (m := (at_.map iav).length) (e := 3) (bytes := 8) rfl rfl (by rw [lM]; omega) (by rw [lM]; omega) v2 (SrcC.ro (v := ints at_) rfl rfl hr3) (by omega) hr3 hr4 (by omega) (by kernel_rfl) (by kernel_rfl) (by (try rw [lM]); omega) (by (try rw [lM]); omega)) ?_ (by rintro _ _ ⟨_, _, _, e, _⟩; cases e); rintro _ _ ⟨o2, c2, tl2, e, rfl, p1, p2, p3⟩; injection e with e; subst e; dsimp only [sA, sB, sC, sD]) | (refine AXS.at (q := 16) rfl rfl ?_; refine AXO.sl 0 (fun _ => ?_); dsimp only [sA, sB, sC, sD]) | (refine AXS.at (q := 19) rfl rfl ?_; refine AXO.sl 0 (fun _ => ?_); dsimp only [sA, sB, sC, sD]) | fail)
  all_goals refine AX.done_keep [0,3,9] ?_
  all_goals exact AW.meet [0, 3, 9] ⟨o1, c1, tl1, o2, c2, tl2, rfl, rfl, ⟨q1, q2, q3⟩, p1, p2, p3⟩
 rintro _ _ ⟨o1, c1, tl1, o2, c2, tl2, rfl, rfl, ⟨q1, q2, q3⟩, p1, p2, p3⟩
 simp only [lM] at q1 q2 q3 p1 p2 p3
 obtain ⟨s2, hs2⟩ : ∃ s2 : WS, s2 = { s with no := o1, nc := c1, nt := tl1, ns := s.ns ++ names, vo := o2, vc := c2, vt := tl2, vs := s.vs ++ at_ } := ⟨_, rfl⟩
 have ok2 : s2.Ok := by
  subst hs2
  exact ⟨n1, n2, t1, t2, t3, by show (s.ns ++ names).length + tl1.length = c1; rw [lA]; omega, fun h => by show (s.ns ++ names).length = 0 ∧ _; rw [lA]; exact q2 h, by show (s.ns ++ names).length ≤ _; rw [lA]; omega, by show (s.vs ++ at_).length + tl2.length = c2; rw [lA]; omega, fun h => by show (s.vs ++ at_).length = 0 ∧ _; rw [lA]; exact p2 h, by show (s.vs ++ at_).length = (s.ns ++ names).length; rw [lA, lA]; omega, fun x hx => (List.mem_append.1 hx).elim (v4 x) (hat x)⟩
 have hc := hK s2 ok2 (by rw [hs2]) (by rw [hs2]) (by rw [hs2]) (by rw [hs2]) (by rw [hs2])
 refine AW.frame_eq rfl (show _ = [Own.box bw s2.box, bfO s2.no (s2.ns.map AV.str ++ s2.nt), bfO s2.vo (s2.vs.map iav ++ s2.vt)] ++ (n.bx :: bfO s2.to (tcells s2.ts ++ s2.tt) :: (s2.ts.map TE.row ++ n.rest)) from ?_) (AW.perm (permW0 _ _ _ _ _ _) ?_)
 ·subst hs2
  simp only [WS.box, lA, List.map_append, lM]
  try rfl
 repeat' (first | (refine xS 3 2 ?_; (refine AL.callQ rfl rfl hc rfl ?_ ?_; rotate_left; rintro _ _ ⟨e, _⟩; cases e; rintro _ _ ⟨e, s3, n3, rfl, sm, nb, nf, hk⟩; injection e with e; subst e) <;> refine AL.es 1 ?_ <;> refine AL.nil ?_) | fail)
 have hN : s3.N = s.N := by rw [sm.N, hs2]
 have hB : s3.base = s.base := by rw [sm.base, hs2]
 have hts : s3.ts = s.ts := by rw [sm.ts, hs2]
 have hns : s3.ns = s.ns ++ names := by rw [sm.ns, hs2]
 have hvs : s3.vs = s.vs ++ at_ := by rw [sm.vs, hs2]
 obtain ⟨k1, k2, k3, k4, k5, k6, k7, k8, k9, k10, k11, k12⟩ := sm.ok
 have hnl : s3.ns.length = s.ns.length + names.length := by rw [hns, lA]
 have hvl : s3.vs.length = s.vs.length + at_.length := by rw [hvs, lA]
 refine AW.seq ?_
 refine AW.cut (fun af h => af = [(10, .bool v)] ∧ h = [Own.box bw (.st [.int .i64 s3.N, .int .i64 s3.base, bfV s3.to s3.ts.length s3.tc, bfV s3.no s.ns.length s3.nc, bfV s3.vo s.ns.length s3.vc, .bool s3.long])] ++ (n3.bx :: (bfO s3.to (tcells s3.ts ++ s3.tt) :: bfO s3.no (s3.ns.map AV.str ++ s3.nt) :: bfO s3.vo (s3.vs.map iav ++ s3.vt) :: (s3.ts.map TE.row ++ n3.rest)))) ?_ ?_
 ·repeat' (first | fail)
  refine AW.explore [false, true] [5, 7, 11, 13, 16, 19] rfl (by kernel_rfl) (by kernel_rfl) (by kernel_rfl) (by kernel_rfl) ?_
  refine AQE.ev rfl rfl rfl rfl ?_
  refine AQE.ev rfl rfl rfl rfl ?_
  refine AQE.ev rfl rfl rfl rfl ?_
  refine AQE.ev rfl rfl rfl rfl ?_
  first | refine AQE.op rfl AOp.fa rfl rfl ?_ | refine AQE.op rfl (AOp.fr 3) rfl rfl ?_
  refine AQE.hole rfl rfl ?_
  refine AQE.ev rfl rfl rfl rfl ?_
  refine AQE.hole rfl rfl ?_
  refine AQE.ev rfl rfl rfl rfl ?_
  refine AQE.ev rfl rfl rfl rfl ?_
  first | refine AQE.op rfl AOp.fa rfl rfl ?_ | refine AQE.op rfl (AOp.fr 4) rfl rfl ?_
  refine AQE.hole rfl rfl ?_
  refine AQE.ev rfl rfl rfl rfl ?_
  refine AQE.hole rfl rfl ?_
  refine AQE.ev rfl rfl rfl rfl ?_
  first | refine AQE.op rfl AOp.fa rfl rfl ?_ | refine AQE.op rfl (AOp.fr 3) rfl rfl ?_
  refine AQE.hole rfl rfl ?_
  refine AQE.ev rfl rfl rfl rfl ?_
  first | refine AQE.op rfl AOp.fa rfl rfl ?_ | refine AQE.op rfl (AOp.fr 4) rfl rfl ?_
  refine AQE.hole rfl rfl ?_
  refine AQE.nil ?_
  repeat' (first | refine AX.two (n := 5) 5 11 rfl ?_ ?_ | refine AX.two (n := 4) 5 13 rfl ?_ ?_ | refine AX.two (n := 4) 7 11 rfl ?_ ?_ | refine AX.one (n := 3) 5 rfl ?_ | refine AX.two (n := 3) 7 13 rfl ?_ ?_ | refine AX.one (n := 3) 11 rfl ?_ | refine AX.one (n := 2) 7 rfl ?_ | refine AX.two (n := 2) 13 16 rfl ?_ ?_ | refine AX.one (n := 1) 13 rfl ?_ | refine AX.one (n := 1) 16 rfl ?_ | refine AX.one (n := 0) 19 rfl ?_ | (refine AXS.det (i := 5) rfl rfl rfl (AOp.ll 0) ?_; dsimp only [sA, sB, sC, sD]) | (refine AXS.det (i := 7) rfl rfl rfl (AOp.cut_bf (sz := 1) (k := s.ns.length) (by kernel_rfl) rfl (bndIs.some rfl rfl) (by omega)) ?_; dsimp only [sA, sB, sC, sD]) | (refine AXS.det (i := 11) rfl rfl rfl (AOp.ll 0) ?_; dsimp only [sA, sB, sC, sD]) | (refine AXS.det (i := 13) rfl rfl rfl (AOp.cut_bf (sz := 1) (k := s.ns.length) (by kernel_rfl) rfl (bndIs.some rfl rfl) (by omega)) ?_; dsimp only [sA, sB, sC, sD]) | (refine AXS.at (q := 16) rfl rfl ?_; refine AXO.sl 0 (fun _ => ?_); dsimp only [sA, sB, sC, sD]) | (refine AXS.at (q := 19) rfl rfl ?_; refine AXO.sl 0 (fun _ => ?_); dsimp only [sA, sB, sC, sD]) | fail)
  all_goals refine AX.done_keep [10] ?_
  all_goals exact AW.meet [10] ⟨rfl, rfl⟩
 rintro _ _ ⟨rfl, rfl⟩
 obtain ⟨s4, hs4⟩ : ∃ s4 : WS, s4 = { s3 with nt := names.map AV.str ++ s3.nt, ns := s.ns, vt := at_.map iav ++ s3.vt, vs := s.vs } := ⟨_, rfl⟩
 have ok4 : s4.Ok := by
  subst hs4
  exact ⟨k1, k2, k3, k4, k5, by show s.ns.length + (names.map AV.str ++ s3.nt).length = s3.nc; rw [lA, lM]; omega, fun h => ⟨by have := (k7 h).1; show s.ns.length = 0; omega, (k7 h).2⟩, m3, by show s.vs.length + (at_.map iav ++ s3.vt).length = s3.vc; rw [lA, lM]; omega, fun h => ⟨by have := (k10 h).1; show s.vs.length = 0; omega, (k10 h).2⟩, v3, fun x hx => by have := v4 x hx; rw [← hN] at this; exact this⟩
 refine AW.frame_eq rfl (show _ = [Own.box bw s4.box] ++ (n3.bx :: (bfO s4.to (tcells s4.ts ++ s4.tt) :: bfO s4.no (s4.ns.map AV.str ++ s4.nt) :: bfO s4.vo (s4.vs.map iav ++ s4.vt) :: (s4.ts.map TE.row ++ n3.rest))) from ?_) (AW.perm (.swap _ _ _) ?_)
 ·subst hs4
  simp only [WS.box, hns, hvs, List.map_append, List.append_assoc, v3]
  try rfl
 repeat' (first | refine AW.re 5 2 ?_ | fail)
 exact AW.retv rfl ⟨rfl, s4, n3, rfl, ⟨by rw [hs4]; exact hN, by rw [hs4]; exact hB, by rw [hs4]; exact hts, by rw [hs4], by rw [hs4], ok4⟩, nb, nf, hk⟩
theorem w_With_own (bw : Nat) (K : NT → Prop) (v : Bool) (n : NT) (s : WS) (names : List ByteArray) (at_ : List Int) (b c : Nat) (tl : List AV) (hs : s.Ok) (hl : at_.length = names.length) (hn : s.ns.length + names.length ≤ 100000) (hat : ∀ x ∈ at_, 0 ≤ x ∧ x < s.N)
  (hK : ∀ s', s'.Ok → s'.N = s.N → s'.base = s.base → s'.ts = s.ts → s'.ns = s.ns ++ names → s'.vs = s.vs ++ at_ → Tri Tryz.prog 155 [.ref bw 0, .ref n.b 0] (hH bw s' n) (HPost bw s' n K (.bool v) [])) :
  Tri Tryz.prog 118 [.ref bw 0, strs names, .osl b at_.length c, .ref n.b 0] (.row b (at_.map iav ++ tl) :: hH bw s n) (HPost bw s n K (.bool v) [.row b (at_.map iav ++ tl)]) := by
 have hs0 := hs
 obtain ⟨n1, n2, t1, t2, t3, m1, m2, m3, v1, v2, v3, v4⟩ := hs
 have hlm : (at_.map iav).length = at_.length := lM _
 have hr1 : ∀ y ∈ names.map AV.str, y.size = 1 := all_map fun _ => rfl
 have hr2 : AV.cellsOK (names.map AV.str) = true := ok_all fun _ hy => by obtain ⟨_, _, rfl⟩ := List.mem_map.1 hy; rfl
 have hr3 : ∀ y ∈ at_.map iav, y.size = 1 := all_map fun _ => rfl
 have hr4 : AV.cellsOK (at_.map iav) = true := ok_all fun _ hy => by obtain ⟨_, _, rfl⟩ := List.mem_map.1 hy; rfl
 refine Tri.enter 56 Tryz.func118 rfl rfl rfl rfl fun Fr w0 => ?_
 repeat' (first | refine AW.re 0 1 ?_ | (refine xS 1 2 ?_; refine AL.d (AOp.fr 3) ?_; refine AL.d (AOp.ll 2) ?_; refine AL.d (AOp.len_val (by kernel_rfl) rfl) ?_; refine xN 1 ?_) | fail)
 refine AW.seq ?_
 refine AW.cut (fun af h => ∃ o1 c1 tl1 o2 c2 tl2, af = [(0, .ref bw 0), (3, .ref n.b 0), (9, .int .i64 s.ns.length)] ∧ h = [.row b (at_.map iav ++ tl), Own.box bw (.st [.int .i64 s.N, .int .i64 s.base, bfV s.to s.ts.length s.tc, bfV o1 (s.ns.length + (names.map AV.str).length) c1, bfV o2 (s.vs.length + (at_.map iav).length) c2, .bool s.long]), bfO o1 (s.ns.map AV.str ++ names.map AV.str ++ tl1), bfO o2 (s.vs.map iav ++ at_.map iav ++ tl2)] ++ (n.bx :: bfO s.to (tcells s.ts ++ s.tt) :: (s.ts.map TE.row ++ n.rest)) ∧ ((s.ns.map AV.str).length + (names.map AV.str).length + tl1.length = c1 * 1 ∧ (o1 = none → s.ns.length + (names.map AV.str).length = 0 ∧ c1 = 0) ∧ s.ns.length + (names.map AV.str).length ≤ c1) ∧ (s.vs.map iav).length + (at_.map iav).length + tl2.length = c2 * 1 ∧ (o2 = none → s.vs.length + (at_.map iav).length = 0 ∧ c2 = 0) ∧ s.vs.length + (at_.map iav).length ≤ c2) ?_ ?_
 ·repeat' (first | fail)
  refine AW.explore [true, false, true, false, true, true] [5, 7, 11, 13, 16, 19] rfl (by kernel_rfl) (by kernel_rfl) (by kernel_rfl) (by kernel_rfl) ?_
  refine AQE.ev rfl rfl rfl rfl ?_
  refine AQE.ev rfl rfl rfl rfl ?_
  refine AQE.ev rfl rfl rfl rfl ?_
  refine AQE.ev rfl rfl rfl rfl ?_
  first | refine AQE.op rfl AOp.fa rfl rfl ?_ | refine AQE.op rfl (AOp.fr 3) rfl rfl ?_
  refine AQE.hole rfl rfl ?_
  refine AQE.ev rfl rfl rfl rfl ?_
  refine AQE.hole rfl rfl ?_
  refine AQE.ev rfl rfl rfl rfl ?_
  refine AQE.ev rfl rfl rfl rfl ?_
  first | refine AQE.op rfl AOp.fa rfl rfl ?_ | refine AQE.op rfl (AOp.fr 4) rfl rfl ?_
  refine AQE.hole rfl rfl ?_
  refine AQE.ev rfl rfl rfl rfl ?_
  refine AQE.hole rfl rfl ?_
  refine AQE.ev rfl rfl rfl rfl ?_
  first | refine AQE.op rfl AOp.fa rfl rfl ?_ | refine AQE.op rfl (AOp.fr 3) rfl rfl ?_
  refine AQE.hole rfl rfl ?_
  refine AQE.ev rfl rfl rfl rfl ?_
  first | refine AQE.op rfl AOp.fa rfl rfl ?_ | refine AQE.op rfl (AOp.fr 4) rfl rfl ?_
  refine AQE.hole rfl rfl ?_
  refine AQE.nil ?_
  repeat' (first | refine AX.two (n := 5) 5 11 rfl ?_ ?_ | refine AX.one (n := 4) 5 rfl ?_ | refine AX.two (n := 4) 7 11 rfl ?_ ?_ | refine AX.one (n := 3) 7 rfl ?_ | refine AX.one (n := 3) 11 rfl ?_ | refine AX.one (n := 2) 13 rfl ?_ | refine AX.one (n := 1) 16 rfl ?_ | refine AX.one (n := 0) 19 rfl ?_ | (refine AXS.det (i := 5) rfl rfl rfl (AOp.ll 1) ?_; dsimp only [sA, sB, sC, sD]) | (refine AXS.step (i := 7) rfl rfl rfl (AOp.append_bf 2 1 (o := s.no) (n := s.ns.length) (c := s.nc) (us := s.ns.map AV.str) (tl := s.nt) (ys := names.map AV.str) (m := (names.map AV.str).length) (e := 9) (bytes := 16) rfl rfl (by rw [lM]; omega) (by rw [lM]; omega) m2 (SrcC.ro (v := strs names) rfl rfl hr1) (by omega) hr1 hr2 (by omega) (by kernel_rfl) (by kernel_rfl) (by rw [lM]; omega) (by rw [lM]; omega)) ?_ (by rintro _ _ ⟨_, _, _, e, _⟩; cases e); rintro _ _ ⟨o1, c1, tl1, e, rfl, q1, q2, q3⟩; injection e with e; subst e; dsimp only [sA, sB, sC, sD]) | (refine AXS.det (i := 11) rfl rfl rfl (AOp.ll 1) ?_; dsimp only [sA, sB, sC, sD]) | (refine AXS.step (i := 13) rfl rfl rfl (AOp.append_bf 3 1 (o := s.vo) (n := s.vs.length) (c := s.vc) (us := s.vs.map iav) (tl := s.vt) (ys := at_.map iav) (m := (at_.map iav).length) (e := 3) (bytes := 8) rfl rfl (by rw [lM]; omega) (by rw [lM]; omega) v2 (SrcC.own 0 (b := b) (m := (at_.map iav).length) (c := c) (ys := at_.map iav) (rest := tl) (by rw [hlm]; rfl) rfl rfl) (by omega) hr3 hr4 (by omega) (by kernel_rfl) (by kernel_rfl) (by (try rw [lM]); omega) (by (try rw [lM]); omega)) ?_ (by rintro _ _ ⟨_, _, _, e, _⟩; cases e); rintro _ _ ⟨o2, c2, tl2, e, rfl, p1, p2, p3⟩; injection e with e; subst e; dsimp only [sA, sB, sC, sD]) | (refine AXS.at (q := 16) rfl rfl ?_; refine AXO.sl 1 (fun _ => ?_); dsimp only [sA, sB, sC, sD]) | (refine AXS.at (q := 19) rfl rfl ?_; refine AXO.sl 1 (fun _ => ?_); dsimp only [sA, sB, sC, sD]) | fail)
  all_goals refine AX.done_keep [0,3,9] ?_
  all_goals exact AW.meet [0, 3, 9] ⟨o1, c1, tl1, o2, c2, tl2, rfl, rfl, ⟨q1, q2, q3⟩, p1, p2, p3⟩
 rintro _ _ ⟨o1, c1, tl1, o2, c2, tl2, rfl, rfl, ⟨q1, q2, q3⟩, p1, p2, p3⟩
 simp only [lM] at q1 q2 q3 p1 p2 p3
 obtain ⟨s2, hs2⟩ : ∃ s2 : WS, s2 = { s with no := o1, nc := c1, nt := tl1, ns := s.ns ++ names, vo := o2, vc := c2, vt := tl2, vs := s.vs ++ at_ } := ⟨_, rfl⟩
 have ok2 : s2.Ok := by
  subst hs2
  exact ⟨n1, n2, t1, t2, t3, by show (s.ns ++ names).length + tl1.length = c1; rw [lA]; omega, fun h => by show (s.ns ++ names).length = 0 ∧ _; rw [lA]; exact q2 h, by show (s.ns ++ names).length ≤ _; rw [lA]; omega, by show (s.vs ++ at_).length + tl2.length = c2; rw [lA]; omega, fun h => by show (s.vs ++ at_).length = 0 ∧ _; rw [lA]; exact p2 h, by show (s.vs ++ at_).length = (s.ns ++ names).length; rw [lA, lA]; omega, fun x hx => (List.mem_append.1 hx).elim (v4 x) (hat x)⟩
 have hc := Tri.ahead (hK s2 ok2 (by rw [hs2]) (by rw [hs2]) (by rw [hs2]) (by rw [hs2]) (by rw [hs2])) [.row b (at_.map iav ++ tl)]
 refine AW.frame_eq rfl (show _ = [Own.row b (at_.map iav ++ tl), .box bw s2.box, bfO s2.no (s2.ns.map AV.str ++ s2.nt), bfO s2.vo (s2.vs.map iav ++ s2.vt)] ++ (n.bx :: bfO s2.to (tcells s2.ts ++ s2.tt) :: (s2.ts.map TE.row ++ n.rest)) from ?_) (AW.perm (permW1 _ _ _ _ _ _ _) ?_)
 ·subst hs2
  simp only [WS.box, lA, List.map_append, lM]
  try rfl
 repeat' (first | (refine xS 3 2 ?_; (refine AL.callQ rfl rfl hc rfl ?_ ?_; rotate_left; rintro _ _ ⟨_, ⟨e, _⟩, _⟩; cases e; rintro _ _ ⟨_, ⟨e, s3, n3, rfl, sm, nb, nf, hk⟩, rfl⟩; injection e with e; subst e) <;> refine AL.es 1 ?_ <;> refine AL.nil ?_) | fail)
 have hN : s3.N = s.N := by rw [sm.N, hs2]
 have hB : s3.base = s.base := by rw [sm.base, hs2]
 have hts : s3.ts = s.ts := by rw [sm.ts, hs2]
 have hns : s3.ns = s.ns ++ names := by rw [sm.ns, hs2]
 have hvs : s3.vs = s.vs ++ at_ := by rw [sm.vs, hs2]
 obtain ⟨k1, k2, k3, k4, k5, k6, k7, k8, k9, k10, k11, k12⟩ := sm.ok
 have hnl : s3.ns.length = s.ns.length + names.length := by rw [hns, lA]
 have hvl : s3.vs.length = s.vs.length + at_.length := by rw [hvs, lA]
 refine AW.seq ?_
 refine AW.cut (fun af h => af = [(10, .bool v)] ∧ h = [Own.box bw (.st [.int .i64 s3.N, .int .i64 s3.base, bfV s3.to s3.ts.length s3.tc, bfV s3.no s.ns.length s3.nc, bfV s3.vo s.ns.length s3.vc, .bool s3.long])] ++ (.row b (at_.map iav ++ tl) :: n3.bx :: (bfO s3.to (tcells s3.ts ++ s3.tt) :: bfO s3.no (s3.ns.map AV.str ++ s3.nt) :: bfO s3.vo (s3.vs.map iav ++ s3.vt) :: (s3.ts.map TE.row ++ n3.rest)))) ?_ ?_
 ·repeat' (first | fail)
  refine AW.explore [false, false, true] [5, 7, 11, 13, 16, 19] rfl (by kernel_rfl) (by kernel_rfl) (by kernel_rfl) (by kernel_rfl) ?_
  refine AQE.ev rfl rfl rfl rfl ?_
  refine AQE.ev rfl rfl rfl rfl ?_
  refine AQE.ev rfl rfl rfl rfl ?_
  refine AQE.ev rfl rfl rfl rfl ?_
  first | refine AQE.op rfl AOp.fa rfl rfl ?_ | refine AQE.op rfl (AOp.fr 3) rfl rfl ?_
  refine AQE.hole rfl rfl ?_
  refine AQE.ev rfl rfl rfl rfl ?_
  refine AQE.hole rfl rfl ?_
  refine AQE.ev rfl rfl rfl rfl ?_
  refine AQE.ev rfl rfl rfl rfl ?_
  first | refine AQE.op rfl AOp.fa rfl rfl ?_ | refine AQE.op rfl (AOp.fr 4) rfl rfl ?_
  refine AQE.hole rfl rfl ?_
  refine AQE.ev rfl rfl rfl rfl ?_
  refine AQE.hole rfl rfl ?_
  refine AQE.ev rfl rfl rfl rfl ?_
  first | refine AQE.op rfl AOp.fa rfl rfl ?_ | refine AQE.op rfl (AOp.fr 3) rfl rfl ?_
  refine AQE.hole rfl rfl ?_
  refine AQE.ev rfl rfl rfl rfl ?_
  first | refine AQE.op rfl AOp.fa rfl rfl ?_ | refine AQE.op rfl (AOp.fr 4) rfl rfl ?_
  refine AQE.hole rfl rfl ?_
  refine AQE.nil ?_
  repeat' (first | refine AX.two (n := 5) 5 11 rfl ?_ ?_ | refine AX.two (n := 4) 5 13 rfl ?_ ?_ | refine AX.two (n := 4) 7 11 rfl ?_ ?_ | refine AX.one (n := 3) 5 rfl ?_ | refine AX.two (n := 3) 7 13 rfl ?_ ?_ | refine AX.one (n := 3) 11 rfl ?_ | refine AX.one (n := 2) 7 rfl ?_ | refine AX.two (n := 2) 13 16 rfl ?_ ?_ | refine AX.one (n := 1) 13 rfl ?_ | refine AX.one (n := 1) 16 rfl ?_ | refine AX.one (n := 0) 19 rfl ?_ | (refine AXS.det (i := 5) rfl rfl rfl (AOp.ll 0) ?_; dsimp only [sA, sB, sC, sD]) | (refine AXS.det (i := 7) rfl rfl rfl (AOp.cut_bf (sz := 1) (k := s.ns.length) (by kernel_rfl) rfl (bndIs.some rfl rfl) (by omega)) ?_; dsimp only [sA, sB, sC, sD]) | (refine AXS.det (i := 11) rfl rfl rfl (AOp.ll 0) ?_; dsimp only [sA, sB, sC, sD]) | (refine AXS.det (i := 13) rfl rfl rfl (AOp.cut_bf (sz := 1) (k := s.ns.length) (by kernel_rfl) rfl (bndIs.some rfl rfl) (by omega)) ?_; dsimp only [sA, sB, sC, sD]) | (refine AXS.at (q := 16) rfl rfl ?_; refine AXO.sl 0 (fun _ => ?_); dsimp only [sA, sB, sC, sD]) | (refine AXS.at (q := 19) rfl rfl ?_; refine AXO.sl 0 (fun _ => ?_); dsimp only [sA, sB, sC, sD]) | fail)
  all_goals refine AX.done_keep [10] ?_
  all_goals exact AW.meet [10] ⟨rfl, rfl⟩
 rintro _ _ ⟨rfl, rfl⟩
 obtain ⟨s4, hs4⟩ : ∃ s4 : WS, s4 = { s3 with nt := names.map AV.str ++ s3.nt, ns := s.ns, vt := at_.map iav ++ s3.vt, vs := s.vs } := ⟨_, rfl⟩
 have ok4 : s4.Ok := by
  subst hs4
  exact ⟨k1, k2, k3, k4, k5, by show s.ns.length + (names.map AV.str ++ s3.nt).length = s3.nc; rw [lA, lM]; omega, fun h => ⟨by have := (k7 h).1; show s.ns.length = 0; omega, (k7 h).2⟩, m3, by show s.vs.length + (at_.map iav ++ s3.vt).length = s3.vc; rw [lA, lM]; omega, fun h => ⟨by have := (k10 h).1; show s.vs.length = 0; omega, (k10 h).2⟩, v3, fun x hx => by have := v4 x hx; rw [← hN] at this; exact this⟩
 refine AW.frame_eq rfl (show _ = [Own.box bw s4.box] ++ (.row b (at_.map iav ++ tl) :: n3.bx :: (bfO s4.to (tcells s4.ts ++ s4.tt) :: bfO s4.no (s4.ns.map AV.str ++ s4.nt) :: bfO s4.vo (s4.vs.map iav ++ s4.vt) :: (s4.ts.map TE.row ++ n3.rest))) from ?_) (AW.perm (List.Perm.trans (.swap _ _ _) (.cons _ (.swap _ _ _))) ?_)
 ·subst hs4
  simp only [WS.box, hns, hvs, List.map_append, List.append_assoc, v3]
  try rfl
 repeat' (first | refine AW.re 5 2 ?_ | fail)
 exact AW.retv rfl ⟨rfl, s4, n3, rfl, ⟨by rw [hs4]; exact hN, by rw [hs4]; exact hB, by rw [hs4]; exact hts, by rw [hs4], by rw [hs4], ok4⟩, nb, nf, hk⟩
abbrev LT := List (ByteArray × Nat)
mutual
def okF (N : Nat) : GFml → LT → Prop
 | ⟨k, ar, nm, vars, args, kids⟩, L =>
  (k = 0 → ∀ c, lkT L nm = some c → c = N ^ args.length ∧ c ≤ 4096) ∧ (k = 8 ∨ k = 9 → N ^ vars.length ≤ 4096) ∧ (k = 10 → N ^ (vars.length / 2) ≤ 4096) ∧ (k = 11 → N ^ ar.toNat ≤ 16) ∧
  (k ≠ 0 → okFL N kids (if k = 8 ∨ k = 9 then L ++ [(nm, N ^ vars.length)] else if k = 11 then L ++ [(nm, N ^ ar.toNat)] else L))
def okFL (N : Nat) : List GFml → LT → Prop
 | [], _ => True
 | x :: l, L => okF N x L ∧ okFL N l L
end
theorem okF_eq (N : Nat) (f : GFml) (L : LT) : okF N f L = ((f.Kind = 0 → ∀ c, lkT L f.Name = some c → c = N ^ f.Args.length ∧ c ≤ 4096) ∧ (f.Kind = 8 ∨ f.Kind = 9 → N ^ f.Vars.length ≤ 4096) ∧ (f.Kind = 10 → N ^ (f.Vars.length / 2) ≤ 4096) ∧ (f.Kind = 11 → N ^ f.Arity.toNat ≤ 16) ∧
  (f.Kind ≠ 0 → okFL N f.Kids (if f.Kind = 8 ∨ f.Kind = 9 then L ++ [(f.Name, N ^ f.Vars.length)] else if f.Kind = 11 then L ++ [(f.Name, N ^ f.Arity.toNat)] else L))) := by
 cases f; rw [okF]
theorem okFL_mem {N : Nat} {L : LT} : ∀ {l : List GFml}, okFL N l L → ∀ x ∈ l, okF N x L
 | [], _, x, h => by cases h
 | y :: l, h, x, hx => by
  rw [okFL] at h
  rcases List.mem_cons.1 hx with rfl | hx
  ·exact h.1
  ·exact okFL_mem h.2 x hx
theorem lkL_push {L L' : LT} {nm s : ByteArray} {c : Nat} (h : s ≠ nm → lkT L s = lkT L' s) : lkT (L ++ [(nm, c)]) s = lkT (L' ++ [(nm, c)]) s := by
 rw [lkT_snoc, lkT_snoc]
 by_cases e : nm = s
 ·simp [e]
 ·simp only [e, if_false]; exact h fun x => e x.symm
mutual
theorem okF_env (N : Nat) : ∀ (f : GFml) (L L' : LT), (∀ s, ocs s f = true → lkT L s = lkT L' s) → okF N f L → okF N f L'
 | ⟨k, ar, nm, vars, args, kids⟩, L, L', h, ho => by
  rw [okF] at ho ⊢
  obtain ⟨h1, h2, h3, h4, h5⟩ := ho
  refine ⟨fun hk c hc => h1 hk c ?_, h2, h3, h4, fun h0 => ?_⟩
  ·rw [h nm (by rw [ocs, hk]; simp)]; exact hc
  ·have h5 := h5 h0
   have hb : ∀ s, ocsL s kids = true → ((k = 8 ∨ k = 9 ∨ k = 11) → s ≠ nm) → lkT L s = lkT L' s := fun s hs hn => by
    refine h s ?_
    rw [ocs]
    have e0 : (k == 0) = false := by simpa using h0
    rw [e0]
    simp only [cond_false]
    by_cases e : (bindsB ⟨k, ar, nm, vars, args, kids⟩ && decide (nm = s)) = true
    ·exfalso
     simp only [bindsB, bA, Bool.or_eq_true, beq_iff_eq, dT] at e
     exact hn (by rcases e.1 with (e1 | e1) | e1 <;> simp [e1]) e.2.symm
    ·rw [Bool.not_eq_true] at e
     rw [e]; exact hs
   by_cases h8 : k = 8 ∨ k = 9
   ·rw [if_pos h8] at h5 ⊢
    exact okFL_env N kids _ _ (fun s hs => lkL_push fun hn => hb s hs fun _ => hn) h5
   ·rw [if_neg h8] at h5 ⊢
    by_cases h11 : k = 11
    ·rw [if_pos h11] at h5 ⊢
     exact okFL_env N kids _ _ (fun s hs => lkL_push fun hn => hb s hs fun _ => hn) h5
    ·rw [if_neg h11] at h5 ⊢
     exact okFL_env N kids _ _ (fun s hs => hb s hs fun e => by omega) h5
theorem okFL_env (N : Nat) : ∀ (l : List GFml) (L L' : LT), (∀ s, ocsL s l = true → lkT L s = lkT L' s) → okFL N l L → okFL N l L'
 | [], _, _, _, _ => by rw [okFL]; trivial
 | x :: l, L, L', h, ho => by
  rw [okFL] at ho ⊢
  exact ⟨okF_env N x L L' (fun s hs => h s (by rw [ocsL, hs, Bool.true_or])) ho.1, okFL_env N l L L' (fun s hs => h s (by rw [ocsL, hs, Bool.or_true])) ho.2⟩
end
def tl (T : TT) : LT := T.map fun p => (p.1, p.2.length)
theorem tl_push (T : TT) (nm : ByteArray) (X : List Bool) : tl (T ++ [(nm, X)]) = tl T ++ [(nm, X.length)] := by simp [tl]
theorem lkT_tl : ∀ (T : TT) (s : ByteArray), lkT (tl T) s = (lkT T s).map List.length
 | [], _ => rfl
 | p :: T, s => by
  have ih := lkT_tl T s
  unfold tl at ih ⊢
  rw [List.map_cons, lkT, lkT, ih]
  cases lkT T s with
  | some b => rfl
  | none => simp only [Option.map_none]; split <;> rfl
theorem lfpR_len {S : List Bool → List Bool} {m : Nat} (hS : ∀ X, (S X).length = m) : ∀ (k : Nat) (X : List Bool), X.length = m → (lfpR S k X).length = m
 | 0, X, h => h
 | k + 1, X, h => by
  rw [lfpR]
  split
  ·exact h
  ·exact lfpR_len hS k _ (hS X)
theorem pfpR_len {S : List Bool → List Bool} {m : Nat} (hS : ∀ X, (S X).length = m) : ∀ (k : Nat) (seen : List (List Bool)) (X Y : List Bool), X.length = m → pfpR S k seen X = some Y → Y.length = m
 | 0, _, X, Y, _, h => by cases h
 | k + 1, seen, X, Y, hx, h => by
  rw [pfpR] at h
  split at h
  ·rw [← Option.some.inj h]; exact hx
  ·split at h
   ·cases h
   ·split at h
    ·cases h
    ·exact pfpR_len hS k _ _ Y (hS X) h
def stg (N M : Nat) (f : GFml) (T : TT) (V : VV) (X : List Bool) : List Bool := (List.range (N ^ f.Vars.length)).map fun i => semH N M f.Kids (T ++ [(f.Name, X)]) (V ++ f.Vars.zip (tup N f.Vars.length i))
def tcT (N M : Nat) (f : GFml) (T : TT) (V : VV) : List Bool := (List.range (N ^ f.Vars.length)).map fun i => semH N M f.Kids T (V ++ f.Vars.zip (tup N f.Vars.length i))
theorem stg_len (N M : Nat) (f : GFml) (T : TT) (V : VV) (X : List Bool) : (stg N M f T V X).length = N ^ f.Vars.length := by simp [stg]
def fixO (N M : Nat) (f : GFml) (T : TT) (V : VV) : Option (List Bool) :=
 if f.Kind = 8 then some (lfpR (stg N M f T V) (N ^ f.Vars.length + 1) (falses (N ^ f.Vars.length))) else pfpR (stg N M f T V) M [] (falses (N ^ f.Vars.length))
theorem falses_len (m : Nat) : (falses m).length = m := by simp [falses]
theorem fixO_len {N M : Nat} {f : GFml} {T : TT} {V : VV} {X : List Bool} (h : fixO N M f T V = some X) : X.length = N ^ f.Vars.length := by
 unfold fixO at h
 split at h
 ·rw [← Option.some.inj h]; exact lfpR_len (stg_len N M f T V) _ _ (falses_len _)
 ·exact pfpR_len (stg_len N M f T V) _ _ _ _ (falses_len _) h
theorem sem_fix (N M : Nat) (f : GFml) (T : TT) (V : VV) (h : f.Kind = 8 ∨ f.Kind = 9) : sem N M f T V = match fixO N M f T V with | none => false | some X => X.getD (rankI N (f.Args.map (val V)) 0).toNat false := by
 obtain ⟨k, ar, nm, vars, args, kids⟩ := f
 simp only at h
 rcases h with rfl | rfl <;> (rw [sem]; rfl)
theorem sem_tc (N M : Nat) (f : GFml) (T : TT) (V : VV) (h : f.Kind = 10) : sem N M f T V = cloR (fun x y => semH N M f.Kids T (V ++ f.Vars.zip (tup N (f.Vars.length / 2) x ++ tup N (f.Vars.length / 2) y))) (N ^ (f.Vars.length / 2)) (rankI N ((f.Args.map (val V)).take (f.Vars.length / 2)) 0).toNat (N ^ (f.Vars.length / 2)) (rankI N ((f.Args.map (val V)).drop (f.Vars.length / 2)) 0).toNat := by
 obtain ⟨k, ar, nm, vars, args, kids⟩ := f
 simp only at h
 subst h
 rw [sem]; rfl
theorem sem_sec (N M : Nat) (f : GFml) (T : TT) (V : VV) (h : f.Kind = 11) : sem N M f T V = gsR (fun X => semH N M f.Kids (T ++ [(f.Name, X)]) V) (2 ^ (N ^ f.Arity.toNat)) (falses (N ^ f.Arity.toNat)) := by
 obtain ⟨k, ar, nm, vars, args, kids⟩ := f
 simp only at h
 subst h
 rw [sem]; rfl
def aloneOk (f : GFml) (fr : Bool) (names : List ByteArray) : Prop := (fr = true → ∀ s, fvBL s f.Kids = true → s ∈ f.Vars) ∧ (∀ s, ocsL s f.Kids = true → s = f.Name ∨ s ∈ names) ∧ names.length ≤ 100000
def tabOk (N M : Nat) (T0 : TT) (f : GFml) (nn : Bool) (X : List Bool) : Prop :=
 (f.Kind = 8 ∨ f.Kind = 9 → (nn = false → fixO N M f T0 [] = some X) ∧ (nn = true → fixO N M f T0 [] = none)) ∧ (f.Kind = 10 → X = tcT N M f T0 [])
def mOk (N M : Nat) (T0 : TT) (f : GFml) : Mm → Prop
 | .m0 => True
 | .m1 fr names => aloneOk f fr names
 | .m2 fr names nn tab => aloneOk f fr names ∧ fr = true ∧ tabOk N M T0 f nn tab.bits
mutual
def KOk (N M : Nat) (T0 : TT) : NT → Prop
 | .mk b f m kids => mOk N M T0 f m ∧ kids.map NT.f = f.Kids ∧ KOkL N M T0 kids
def KOkL (N M : Nat) (T0 : TT) : List NT → Prop
 | [] => True
 | n :: l => KOk N M T0 n ∧ KOkL N M T0 l
end
theorem KOk_eq (N M : Nat) (T0 : TT) (n : NT) : KOk N M T0 n = (mOk N M T0 n.f n.m ∧ n.kids.map NT.f = n.f.Kids ∧ KOkL N M T0 n.kids) := by
 cases n; rw [KOk]; rfl
theorem KOkL_mem {N M : Nat} {T0 : TT} : ∀ {l : List NT}, KOkL N M T0 l → ∀ x ∈ l, KOk N M T0 x
 | [], _, x, h => by cases h
 | y :: l, h, x, hx => by
  rw [KOkL] at h
  rcases List.mem_cons.1 hx with rfl | hx
  ·exact h.1
  ·exact KOkL_mem h.2 x hx
def Alone (T : TT) (base : Nat) (f : GFml) : Prop := (∀ s, fvBL s f.Kids = true → s ∈ f.Vars) ∧ ∀ s, ocsL s f.Kids = true → s ≠ f.Name → lkT (T.drop base) s = none
theorem alone_lk {T : TT} {base : Nat} {s : ByteArray} (h : lkT (T.drop base) s = none) : lkT T s = lkT (T.take base) s := by
 conv => lhs; rw [← List.take_append_drop base T]
 rw [lkT_app, h]
theorem shsF_kids {f : GFml} (h : shsF f = true) : shsFs f.Kids = true := by
 rw [shsF_eq, bA] at h; exact h.1
theorem alone_sem {N M : Nat} {T : TT} {V : VV} {base : Nat} {f : GFml} (hs : shsF f = true) (h : Alone T base f) (hn : ∀ s, ocsL s f.Kids = true → s = f.Name → False) (t : List Int) (ht : t.length = f.Vars.length) :
  semH N M f.Kids T (V ++ f.Vars.zip t) = semH N M f.Kids (T.take base) ([] ++ f.Vars.zip t) :=
 (sem_envL N M f.Kids _ _ _ _ (shsF_kids hs) (fun s hs' => alone_lk (h.2 s hs' fun e => hn s hs' e)) (VEq.push (f := fun _ => false) (fun s hs' => by cases hs') (fun s hs' hm => (hm (h.1 s hs')).elim) t ht)).1
theorem alone_semX {N M : Nat} {T : TT} {V : VV} {base : Nat} {f : GFml} (hs : shsF f = true) (h : Alone T base f) (X : List Bool) (t : List Int) (ht : t.length = f.Vars.length) :
  semH N M f.Kids (T ++ [(f.Name, X)]) (V ++ f.Vars.zip t) = semH N M f.Kids (T.take base ++ [(f.Name, X)]) ([] ++ f.Vars.zip t) := by
 refine (sem_envL N M f.Kids _ _ _ _ (shsF_kids hs) (fun s hs' => ?_) (VEq.push (f := fun _ => false) (fun s hs' => by cases hs') (fun s hs' hm => (hm (h.1 s hs')).elim) t ht)).1
 rw [lkT_snoc, lkT_snoc]
 by_cases e : f.Name = s
 ·rw [if_pos e, if_pos e]
 ·rw [if_neg e, if_neg e]; exact alone_lk (h.2 s hs' fun x => e x.symm)
theorem alone_stg {N M : Nat} {T : TT} {V : VV} {base : Nat} {f : GFml} (hs : shsF f = true) (h : Alone T base f) (X : List Bool) : stg N M f T V X = stg N M f (T.take base) [] X := by
 unfold stg
 exact List.map_congr_left fun i _ => alone_semX hs h X _ (tup_len _ _ _)
theorem alone_fixO {N M : Nat} {T : TT} {V : VV} {base : Nat} {f : GFml} (hs : shsF f = true) (h : Alone T base f) : fixO N M f T V = fixO N M f (T.take base) [] := by
 unfold fixO
 rw [show stg N M f T V = stg N M f (T.take base) [] from funext fun X => alone_stg hs h X]
theorem alone_tcT {N M : Nat} {T : TT} {V : VV} {base : Nat} {f : GFml} (hs : shsF f = true) (h : Alone T base f) (hn : ∀ s, ocsL s f.Kids = true → s = f.Name → False) : tcT N M f T V = tcT N M f (T.take base) [] := by
 unfold tcT
 exact List.map_congr_left fun i _ => alone_sem hs h hn _ (tup_len _ _ _)
theorem frV_iff (vars : List ByteArray) : ∀ (l out : List ByteArray) (x : ByteArray), x ∈ frV vars l out ↔ (x ∈ l ∧ has vars x = false) ∨ x ∈ out
 | [], out, x => by rw [frV]; simp
 | v :: l, out, x => by
  rw [frV, frV_iff vars l]
  cases hv : has vars v with
  | true =>
   simp only [cond_true, List.mem_cons]
   constructor
   ·rintro (⟨h1, h2⟩ | h)
    ·exact .inl ⟨.inr h1, h2⟩
    ·exact .inr h
   ·rintro (⟨rfl | h1, h2⟩ | h)
    ·rw [hv] at h2; cases h2
    ·exact .inl ⟨h1, h2⟩
    ·exact .inr h
  | false =>
   simp only [cond_false, List.mem_cons, risP_mem]
   constructor
   ·rintro (⟨h1, h2⟩ | rfl | h)
    ·exact .inl ⟨.inr h1, h2⟩
    ·exact .inl ⟨.inl rfl, hv⟩
    ·exact .inr h
   ·rintro (⟨rfl | h1, h2⟩ | h)
    ·exact .inr (.inl rfl)
    ·exact .inl ⟨h1, h2⟩
    ·exact .inr (.inr h)
theorem frA_iff : ∀ (l out : List ByteArray) (x : ByteArray), x ∈ frA l out ↔ x ∈ l ∨ x ∈ out
 | [], out, x => by rw [frA]; simp
 | v :: l, out, x => by
  rw [frA, frA_iff l, risP_mem, List.mem_cons]
  constructor
  ·rintro (h | rfl | h) <;> simp [*]
  ·rintro ((rfl | h) | h) <;> simp [*]
mutual
theorem frF_fv : ∀ (f : GFml) (x : ByteArray), x ∈ frF f ↔ fvB x f = true
 | ⟨k, ar, nm, vars, args, kids⟩, x => by
  rw [frF, fvB, frA_iff, frLs_fv vars kids, Bool.or_eq_true, bA, has_mem]
  simp [and_comm]
theorem frLs_fv (vars : List ByteArray) : ∀ (l : List GFml) (out : List ByteArray) (x : ByteArray), x ∈ frLs vars l out ↔ (fvBL x l = true ∧ has vars x = false) ∨ x ∈ out
 | [], out, x => by rw [frLs, fvBL]; simp
 | y :: l, out, x => by
  rw [frLs, frLs_fv vars l, frV_iff, frF_fv y, fvBL, Bool.or_eq_true]
  constructor
  ·rintro (⟨h1, h2⟩ | ⟨h1, h2⟩ | h)
   ·exact .inl ⟨.inr h1, h2⟩
   ·exact .inl ⟨.inl h1, h2⟩
   ·exact .inr h
  ·rintro (⟨h1 | h1, h2⟩ | h)
   ·exact .inr (.inl ⟨h1, h2⟩)
   ·exact .inl ⟨h1, h2⟩
   ·exact .inr (.inr h)
end
mutual
theorem ocF_mem : ∀ (f : GFml) (bd : List ByteArray) (out : List GSym) (y : GSym), y ∈ ocF f bd out ↔ y ∈ out ∨ y ∈ ocF f bd []
 | ⟨k, ar, nm, vars, args, kids⟩, bd, out, y => by
  rw [ocF, ocF]
  cases hc : (k == 0 && !(bd.any fun x => decide (x = nm))) with
  | true => simp
  | false => simp only [cond_false]; exact ocFs_mem kids _ out y
theorem ocFs_mem : ∀ (l : List GFml) (bd : List ByteArray) (out : List GSym) (y : GSym), y ∈ ocFs l bd out ↔ y ∈ out ∨ y ∈ ocFs l bd []
 | [], bd, out, y => by rw [ocFs, ocFs]; simp
 | x :: l, bd, out, y => by
  rw [ocFs, ocFs, ocFs_mem l bd (ocF x bd out), ocFs_mem l bd (ocF x bd []), ocF_mem x bd out, or_assoc]
end
mutual
theorem ocs_oc (s : ByteArray) : ∀ (f : GFml) (bd : List ByteArray) (out : List GSym), ocs s f = true → s ∉ bd → ∃ y ∈ ocF f bd out, y.Name = s
 | ⟨k, ar, nm, vars, args, kids⟩, bd, out, h, hb => by
  rw [ocs] at h
  rw [ocF]
  by_cases h0 : k = 0
  ·subst h0
   simp only [beq_self_eq_true, cond_true, dT] at h
   subst h
   have : (bd.any fun x => decide (x = nm)) = false := by
    rw [List.any_eq_false]; intro x hx; simp; intro e; subst e; exact hb hx
   rw [this]
   exact ⟨⟨nm, args.length⟩, by simp, rfl⟩
  ·have e0 : (k == 0) = false := by simpa using h0
   rw [e0] at h ⊢
   simp only [cond_false, Bool.false_and] at h ⊢
   cases hbn : bindsB ⟨k, ar, nm, vars, args, kids⟩ with
   | false => rw [hbn] at h; simp only [Bool.false_and, cond_false] at h ⊢; exact ocs_ocL s kids bd out h hb
   | true =>
    rw [hbn] at h
    by_cases e : nm = s
    ·simp [e] at h
    ·simp only [e, decide_false, Bool.and_false, cond_false, cond_true] at h ⊢
     exact ocs_ocL s kids _ out h (by simp [hb]; exact fun x => e x.symm)
theorem ocs_ocL (s : ByteArray) : ∀ (l : List GFml) (bd : List ByteArray) (out : List GSym), ocsL s l = true → s ∉ bd → ∃ y ∈ ocFs l bd out, y.Name = s
 | [], _, _, h, _ => by cases h
 | x :: l, bd, out, h, hb => by
  rw [ocsL, Bool.or_eq_true] at h
  rw [ocFs]
  rcases h with h | h
  ·obtain ⟨y, hy, e⟩ := ocs_oc s x bd out h hb
   exact ⟨y, (ocFs_mem l bd _ y).2 (.inl hy), e⟩
  ·exact ocs_ocL s l bd _ h hb
end
mutual
def smF (N : Nat) : GFml → Bool
 | ⟨k, ar, nm, vars, args, kids⟩ => !((k == 8 || k == 9) && decide (4096 < N ^ vars.length)) && !(k == 10 && decide (4096 < N ^ (vars.length / 2))) && !(k == 11 && decide (16 < N ^ ar.toNat)) && smFs N kids
def smFs (N : Nat) : List GFml → Bool
 | [] => true
 | x :: l => smF N x && smFs N l
end
theorem arAt_snoc2 (s : ByteArray) (b : List GSym) (y : GSym) : arAt s (b ++ [y]) (b ++ [y]).length = if y.Name = s then some y.Arity else arAt s b b.length := by
 rw [lA, List.length_singleton, arAt, List.getElem?_append_right (Nat.le_refl _), Nat.sub_self]
 simp only [List.getElem?_cons_zero]
 split
 ·rfl
 ·have : ∀ j, j ≤ b.length → arAt s (b ++ [y]) j = arAt s b j := by
   intro j
   induction j with
   | zero => intro _; rfl
   | succ j ih => intro hj; rw [arAt, arAt, List.getElem?_append_left (by omega), ih (by omega)]
  exact this _ (Nat.le_refl _)
theorem arAt_none {s : ByteArray} {b : List GSym} (h : arAt s b b.length = none) : s ∉ b.map GSym.Name := by
 have key : ∀ j, j ≤ b.length → arAt s b j = none → ∀ i, i < j → ∀ y, b[i]? = some y → y.Name ≠ s := by
  intro j
  induction j with
  | zero => intro _ _ i hi; omega
  | succ j ih =>
   intro hj hn i hi y hy
   rw [arAt] at hn
   obtain ⟨z, hz⟩ := get_lt (show j < b.length by omega)
   rw [hz] at hn
   simp only at hn
   split at hn
   ·cases hn
   ·rename_i hne
    by_cases e : i = j
    ·subst e; rw [hz] at hy; rw [← Option.some.inj hy]; exact hne
    ·exact ih (by omega) hn i (by omega) y hy
 intro hm
 obtain ⟨y, hy, e⟩ := List.mem_map.1 hm
 obtain ⟨i, hi, hg⟩ := List.getElem_of_mem hy
 exact key _ (Nat.le_refl _) h i hi y (by rw [List.getElem?_eq_getElem hi, hg]) e
structure LB_ (N : Nat) (L : LT) (b : List GSym) (P : GSym → Prop) : Prop where
 bound : ∀ s m, arAt s b b.length = some m → 0 ≤ m ∧ lkT L s = some (N ^ m.toNat) ∧ N ^ m.toNat ≤ 4096
 free : ∀ s, arAt s b b.length = none → ∀ y, P y → y.Name = s → ∀ c, lkT L s = some c → c = N ^ y.Arity.toNat ∧ c ≤ 4096
theorem LB_.push {N : Nat} {L : LT} {b : List GSym} {P : GSym → Prop} (h : LB_ N L b P) (nm : ByteArray) (m : Nat) (hm : N ^ m ≤ 4096) : LB_ N (L ++ [(nm, N ^ m)]) (b ++ [⟨nm, m⟩]) P := by
 refine ⟨fun s k hk => ?_, fun s hs y hy e c hc => ?_⟩
 ·rw [arAt_snoc2] at hk
  rw [lkT_snoc]
  by_cases e : nm = s
  ·simp only [e, if_true] at hk ⊢
   obtain rfl := Option.some.inj hk
   exact ⟨by omega, by simp, by simpa using hm⟩
  ·simp only [e, if_false] at hk ⊢
   exact h.bound s k hk
 ·rw [arAt_snoc2] at hs
  rw [lkT_snoc] at hc
  by_cases e' : nm = s
  ·simp [e'] at hs
  ·simp only [e', if_false] at hs hc
   exact h.free s hs y hy e c hc
mutual
theorem okF_of (N : Nat) : ∀ (f : GFml) (b : List GSym) (L : LT) (P : GSym → Prop), shsF f = true → arF f b = true → smF N f = true → LB_ N L b P → (∀ y ∈ ocF f (b.map GSym.Name) [], P y) → okF N f L
 | ⟨k, ar, nm, vars, args, kids⟩, b, L, P, hs, ha, hf, hL, hP => by
  rw [shsF, bA] at hs
  rw [arF] at ha
  rw [smF] at hf
  simp only [bA, Bool.not_eq_true', Bool.and_eq_false_iff, Bool.or_eq_false_iff, beq_eq_false_iff_ne, dF, Nat.not_lt] at hf
  obtain ⟨⟨⟨f1, f2⟩, f3⟩, f4⟩ := hf
  rw [okF]
  refine ⟨fun h0 c hc => ?_, fun h8 => ?_, fun h10 => ?_, fun h11 => ?_, fun h0 => ?_⟩
  ·subst h0
   simp only [beq_self_eq_true, cond_true] at ha
   cases hat : arAt nm b b.length with
   | some m =>
    rw [hat] at ha
    simp only [arR, beq_iff_eq] at ha
    obtain ⟨m0, m1, m2⟩ := hL.bound nm m hat
    rw [m1] at hc
    obtain rfl := Option.some.inj hc
    rw [show args.length = m.toNat by omega]
    exact ⟨rfl, m2⟩
   | none =>
    have hn := arAt_none hat
    have hy : (⟨nm, args.length⟩ : GSym) ∈ ocF ⟨0, ar, nm, vars, args, kids⟩ (b.map GSym.Name) [] := by
     rw [ocF]
     have : ((b.map GSym.Name).any fun x => decide (x = nm)) = false := by
      rw [List.any_eq_false]; intro x hx; simp; intro e; subst e; exact hn hx
     rw [this]; simp
    have := hL.free nm hat _ (hP _ hy) rfl c hc
    simpa using this
  ·rcases f1 with f1 | f1
   ·omega
   ·exact f1
  ·rcases f2 with f2 | f2
   ·exact (f2 h10).elim
   ·exact f2
  ·rcases f3 with f3 | f3
   ·exact (f3 h11).elim
   ·exact f3
  ·have e0 : (k == 0) = false := by simpa using h0
   rw [e0] at ha
   simp only [cond_false] at ha
   rw [ocF, e0] at hP
   simp only [Bool.false_and, cond_false] at hP
   by_cases h8 : k = 8 ∨ k = 9
   ·have hb : bindsB ⟨k, ar, nm, vars, args, kids⟩ = true := by rcases h8 with rfl | rfl <;> rfl
    have hn : bindsN ⟨k, ar, nm, vars, args, kids⟩ = vars.length := by unfold bindsN; rw [if_pos h8]
    rw [hb] at ha hP
    rw [hn] at ha
    rw [if_pos h8]
    refine okFL_of N kids _ _ P hs.1 ha f4 (hL.push nm vars.length ?_) (by simpa using hP)
    rcases f1 with f1 | f1
    ·omega
    ·exact f1
   ·rw [if_neg h8]
    by_cases h11 : k = 11
    ·have hb : bindsB ⟨k, ar, nm, vars, args, kids⟩ = true := by subst h11; rfl
     have h0a := (by have := hs.2; simp only [shapedP, shp2, bA, dT] at this; exact this.1.2.1.1.2 : (0 : Int) ≤ ar)
     have hn : bindsN ⟨k, ar, nm, vars, args, kids⟩ = (ar.toNat : Nat) := by unfold bindsN; rw [if_neg h8, if_pos h11]; show ar = _; omega
     rw [hb] at ha hP
     rw [hn] at ha
     rw [if_pos h11]
     refine okFL_of N kids _ _ P hs.1 ha f4 (hL.push nm ar.toNat ?_) (by simpa using hP)
     rcases f3 with f3 | f3
     ·exact (f3 h11).elim
     ·omega
    ·have hb : bindsB ⟨k, ar, nm, vars, args, kids⟩ = false := by simp only [bindsB]; simp; omega
     rw [hb] at ha hP
     rw [if_neg h11]
     exact okFL_of N kids b L P hs.1 ha f4 hL hP
theorem okFL_of (N : Nat) : ∀ (l : List GFml) (b : List GSym) (L : LT) (P : GSym → Prop), shsFs l = true → arFs l b = true → smFs N l = true → LB_ N L b P → (∀ y ∈ ocFs l (b.map GSym.Name) [], P y) → okFL N l L
 | [], _, _, _, _, _, _, _, _ => by rw [okFL]; trivial
 | x :: l, b, L, P, hs, ha, hf, hL, hP => by
  rw [shsFs, bA] at hs
  rw [arFs, bA] at ha
  rw [smFs, bA] at hf
  rw [okFL]
  rw [ocFs] at hP
  exact ⟨okF_of N x b L P hs.1 ha.1 hf.1 hL fun y hy => hP y ((ocFs_mem l _ _ y).2 (.inl hy)), okFL_of N l b L P hs.2 ha.2 hf.2 hL fun y hy => hP y ((ocFs_mem l _ _ y).2 (.inr hy))⟩
end
theorem sem_node (N M : Nat) {k ar : Int} {nm : ByteArray} {vars args args' : List ByteArray} {kids kids' : List GFml} {T : TT} {V V' : VV} (hs : shapedP ⟨k, ar, nm, vars, args, kids⟩ = true)
  (ha : args'.map (val V') = args.map (val V)) (hl : args'.length = args.length)
  (hk : ∀ (ts : List Int) (T : TT), ts.length = vars.length → semH N M kids' T (V' ++ vars.zip ts) = semH N M kids T (V ++ vars.zip ts) ∧ semA N M kids' T (V' ++ vars.zip ts) = semA N M kids T (V ++ vars.zip ts) ∧ semO N M kids' T (V' ++ vars.zip ts) = semO N M kids T (V ++ vars.zip ts)) :
  sem N M ⟨k, ar, nm, vars, args', kids'⟩ T V' = sem N M ⟨k, ar, nm, vars, args, kids⟩ T V := by
 have hkb := kind_bd hs
 have hq : k = 0 ∨ k = 1 ∨ k = 2 ∨ k = 3 ∨ k = 4 ∨ k = 5 ∨ k = 6 ∨ k = 7 ∨ k = 8 ∨ k = 9 ∨ k = 10 ∨ k = 11 := by simp only at hkb; omega
 have h0 : vars = [] → ∀ T, semH N M kids' T V' = semH N M kids T V ∧ semA N M kids' T V' = semA N M kids T V ∧ semO N M kids' T V' = semO N M kids T V := by
  intro e T
  have := hk [] T (by rw [e]; rfl)
  simpa using this
 have hno : ∀ q : Int, k = q → (q = 3 ∨ q = 4 ∨ q = 5 ∨ q = 11) → vars = [] := fun q e hq => shaped_no hs (by simp only; omega)
 have hg : ∀ i, i < args.length → val V' (args'.getD i empB) = val V (args.getD i empB) := by
  intro i hi
  have := congrArg (fun l => l[i]?) ha
  simp only [List.getElem?_map] at this
  rw [List.getD_eq_getElem?_getD, List.getD_eq_getElem?_getD]
  rw [List.getElem?_eq_getElem hi, List.getElem?_eq_getElem (by omega)] at this ⊢
  simpa using this
 rw [sem, sem]
 rcases hq with rfl | rfl | rfl | rfl | rfl | rfl | rfl | rfl | rfl | rfl | rfl | rfl
 ·simp only [if_true, ha]
 ·have h2 := shaped_eq2 hs (.inl rfl)
  simp only at h2
  simp only [hg 0 (by omega), hg 1 (by omega)]; rfl
 ·have h2 := shaped_eq2 hs (.inr rfl)
  simp only at h2
  simp only [hg 0 (by omega), hg 1 (by omega)]; rfl
 ·simp only [(h0 (hno 3 rfl (by omega)) T).1]; rfl
 ·simp only [(h0 (hno 4 rfl (by omega)) T).2.1]; rfl
 ·simp only [(h0 (hno 5 rfl (by omega)) T).2.2]; rfl
 ·simp only [fun i => (hk (tup N vars.length i) T (tup_len _ _ _)).1]; rfl
 ·simp only [fun i => (hk (tup N vars.length i) T (tup_len _ _ _)).1]; rfl
 ·simp only [ha, fun i X => (hk (tup N vars.length i) X (tup_len _ _ _)).1]; rfl
 ·simp only [ha, fun i X => (hk (tup N vars.length i) X (tup_len _ _ _)).1]; rfl
 ·have h2 := shaped_tc hs rfl
  simp only at h2
  simp only [ha, fun x y => (hk (tup N (vars.length / 2) x ++ tup N (vars.length / 2) y) T (by rw [lA, tup_len, tup_len]; omega)).1]; rfl
 ·simp only [fun X => (h0 (hno 11 rfl (by omega)) X).1]; rfl
section
variable (N M : Nat) (a b : ByteArray)
end
section
variable (a b : ByteArray)
end
theorem semA_all (N M : Nat) (T : TT) (V : VV) : ∀ l : List GFml, semA N M l T V = l.all fun x => sem N M x T V
 | [] => by rw [semA]; rfl
 | x :: l => by rw [semA, List.all_cons, semA_all N M T V l]
theorem semO_any (N M : Nat) (T : TT) (V : VV) : ∀ l : List GFml, semO N M l T V = l.any fun x => sem N M x T V
 | [] => by rw [semO]; rfl
 | x :: l => by rw [semO, List.any_cons, semO_any N M T V l]
theorem shsFs_all : ∀ l : List GFml, shsFs l = l.all shsF
 | [] => by rw [shsFs]; rfl
 | x :: l => by rw [shsFs, List.all_cons, shsFs_all l]
theorem fvBL_any (s : ByteArray) : ∀ l : List GFml, fvBL s l = l.any (fvB s)
 | [] => by rw [fvBL]; rfl
 | x :: l => by rw [fvBL, List.any_cons, fvBL_any s l]
theorem arFs_all (b : List GSym) : ∀ l : List GFml, arFs l b = l.all fun x => arF x b
 | [] => by rw [arFs]; rfl
 | x :: l => by rw [arFs, List.all_cons, arFs_all b l]
theorem posFs_all (s : ByteArray) (odd part : Bool) : ∀ l : List GFml, posFs s l odd part = l.all fun x => posF s x odd part
 | [] => by rw [posFs]; rfl
 | x :: l => by rw [posFs, List.all_cons, posFs_all s odd part l]
theorem grFs_all : ∀ l : List GFml, grFs l = l.all grF
 | [] => by rw [grFs]; rfl
 | x :: l => by rw [grFs, List.all_cons, grFs_all l]
theorem ocFs_in (bd : List ByteArray) (y : GSym) : ∀ l : List GFml, y ∈ ocFs l bd [] ↔ ∃ x ∈ l, y ∈ ocF x bd []
 | [] => by rw [ocFs]; simp
 | x :: l => by
  rw [ocFs, ocFs_mem, ocFs_in bd y l]
  simp
theorem ndFs_sub : ∀ {a b : List GFml}, a.Sublist b → ndFs a ≤ ndFs b
 | _, _, .slnil => Nat.le_refl _
 | _, _, .cons x h => by have := ndFs_sub h; rw [ndFs]; omega
 | _, _, .cons_cons x h => by have := ndFs_sub h; rw [ndFs, ndFs]; omega
theorem ndFs_app : ∀ a b : List GFml, ndFs (a ++ b) = ndFs a + ndFs b
 | [], b => by rw [List.nil_append, ndFs]; omega
 | x :: a, b => by rw [List.cons_append, ndFs, ndFs, ndFs_app a b]; omega
theorem dpF_eq (f : GFml) : dpF f = dpFs f.Kids + 1 := by cases f; rw [dpF, Nat.add_comm]
theorem dpFs_mem : ∀ {l : List GFml} {x : GFml}, x ∈ l → dpF x ≤ dpFs l
 | y :: l, x, h => by
  rw [dpFs]
  rcases List.mem_cons.1 h with rfl | h
  ·exact Nat.le_max_left ..
  ·exact Nat.le_trans (dpFs_mem h) (Nat.le_max_right ..)
theorem dpFs_le {n : Nat} : ∀ {l : List GFml}, (∀ x ∈ l, dpF x ≤ n) → dpFs l ≤ n
 | [], _ => by rw [dpFs]; exact Nat.zero_le _
 | x :: l, h => by
  rw [dpFs]
  exact Nat.max_le.2 ⟨h x (List.mem_cons_self ..), dpFs_le fun y hy => h y (List.mem_cons_of_mem _ hy)⟩
structure Good (f g : GFml) : Prop where
 shs : shsF g = true
 nd : ndF g ≤ ndF f
 dp : dpF g ≤ dpF f
 fv : ∀ s, fvB s g = true → fvB s f = true
 ar : ∀ b, arF f b = true → arF g b = true
 pos : ∀ s odd part, posF s f odd part = true → posF s g odd part = true
 gr : grF f = true → grF g = true
 oc : ∀ y bd, y ∈ ocF g bd [] → y ∈ ocF f bd []
 ok : f.Ok → g.Ok
 sem : ∀ N M T V, 1 ≤ N → sem N M g T V = sem N M f T V
theorem Good.refl {f : GFml} (h : shsF f = true) : Good f f := ⟨h, Nat.le_refl _, Nat.le_refl _, fun _ h => h, fun _ h => h, fun _ _ _ h => h, id, fun _ _ h => h, id, fun _ _ _ _ _ => rfl⟩
theorem Good.trans {f g h : GFml} (a : Good f g) (b : Good g h) : Good f h :=
 ⟨b.shs, Nat.le_trans b.nd a.nd, Nat.le_trans b.dp a.dp, fun s h => a.fv s (b.fv s h), fun s h => b.ar s (a.ar s h), fun s o p h => b.pos s o p (a.pos s o p h), fun h => b.gr (a.gr h), fun y bd h => a.oc y bd (b.oc y bd h), fun h => b.ok (a.ok h), fun N M T V h => (b.sem N M T V h).trans (a.sem N M T V h)⟩
def GoodL : List GFml → List GFml → Prop
 | [], [] => True
 | x :: l, y :: m => Good x y ∧ GoodL l m
 | _, _ => False
theorem GoodL.len : ∀ {l m : List GFml}, GoodL l m → m.length = l.length
 | [], [], _ => rfl
 | x :: l, y :: m, h => by rw [List.length_cons, List.length_cons, GoodL.len h.2]
theorem GoodL.all {p q : GFml → Bool} (hp : ∀ x y, Good x y → p x = true → q y = true) : ∀ {l m : List GFml}, GoodL l m → l.all p = true → m.all q = true
 | [], [], _, _ => rfl
 | x :: l, y :: m, h, k => by
  rw [List.all_cons, bA] at k ⊢
  exact ⟨hp x y h.1 k.1, GoodL.all hp h.2 k.2⟩
theorem GoodL.mem : ∀ {l m : List GFml}, GoodL l m → ∀ y ∈ m, ∃ x ∈ l, Good x y
 | [], [], h, z, hz => by cases hz
 | x :: l, y :: m, h, z, hz => by
  rcases List.mem_cons.1 hz with rfl | hz
  ·exact ⟨x, List.mem_cons_self .., h.1⟩
  ·obtain ⟨w, hw, g⟩ := GoodL.mem h.2 z hz
   exact ⟨w, List.mem_cons_of_mem _ hw, g⟩
theorem GoodL.nd : ∀ {l m : List GFml}, GoodL l m → ndFs m ≤ ndFs l
 | [], [], _ => Nat.le_refl _
 | x :: l, y :: m, h => by have h1 := h.1.nd; have h2 := GoodL.nd h.2; rw [ndFs, ndFs]; omega
theorem GoodL.dp : ∀ {l m : List GFml}, GoodL l m → dpFs m ≤ dpFs l
 | [], [], _ => Nat.le_refl _
 | x :: l, y :: m, h => by have h1 := h.1.dp; have h2 := GoodL.dp h.2; rw [dpFs, dpFs]; omega
theorem GoodL.sem {N M : Nat} (hN : 1 ≤ N) (T : TT) (V : VV) : ∀ {l m : List GFml}, GoodL l m → semH N M m T V = semH N M l T V ∧ semA N M m T V = semA N M l T V ∧ semO N M m T V = semO N M l T V
 | [], [], _ => ⟨rfl, rfl, rfl⟩
 | x :: l, y :: m, h => by
  obtain ⟨_, h2, h3⟩ := GoodL.sem hN T V h.2
  have h1 := h.1.sem N M T V hN
  rw [semH, semH, semA, semA, semO, semO, h1, h2, h3]
  exact ⟨rfl, rfl, rfl⟩
theorem shaped_len {k ar : Int} {nm : ByteArray} {vars args : List ByteArray} {kids kids' : List GFml} (hl : kids'.length = kids.length) (h : shapedP ⟨k, ar, nm, vars, args, kids⟩ = true) : shapedP ⟨k, ar, nm, vars, args, kids'⟩ = true := by
 simp only [shapedP, shp1, shp2, shp3, bA, hl] at h ⊢
 exact h
theorem Good.node {k ar : Int} {nm : ByteArray} {vars args : List ByteArray} {kids kids' : List GFml} (hs : shapedP ⟨k, ar, nm, vars, args, kids⟩ = true) (h : GoodL kids kids') (hk : shsFs kids = true) : Good ⟨k, ar, nm, vars, args, kids⟩ ⟨k, ar, nm, vars, args, kids'⟩ where
 shs := by
  rw [shsF, bA, shsFs_all]
  exact ⟨h.all (p := shsF) (fun x y g _ => g.shs) (by rw [← shsFs_all]; exact hk), shaped_len h.len hs⟩
 nd := by rw [ndF, ndF]; have := h.nd; omega
 dp := by rw [dpF, dpF]; have := h.dp; omega
 fv := fun s h1 => by
  rw [fvB, Bool.or_eq_true, bA, fvBL_any, List.any_eq_true] at h1 ⊢
  rcases h1 with h1 | ⟨h1, y, hy, h2⟩
  ·exact .inl h1
  ·obtain ⟨x, hx, g⟩ := h.mem y hy
   exact .inr ⟨h1, x, hx, g.fv s h2⟩
 ar := fun b h1 => by
  rw [arF] at h1 ⊢
  cases hk0 : k == 0 with
  | true => rw [hk0] at h1; exact h1
  | false =>
   rw [hk0, cond_false, arFs_all] at h1
   rw [cond_false, arFs_all]
   exact h.all (fun x y g hx => g.ar _ hx) h1
 pos := fun s odd part h1 => by
  rw [posF] at h1 ⊢
  cases hk0 : k == 0 with
  | true => rw [hk0] at h1; exact h1
  | false =>
   rw [hk0, cond_false] at h1
   rw [cond_false]
   have hb : bindsB ⟨k, ar, nm, vars, args, kids'⟩ = bindsB ⟨k, ar, nm, vars, args, kids⟩ := rfl
   rw [hb]
   cases hb2 : (bindsB ⟨k, ar, nm, vars, args, kids⟩ && decide (nm = s)) with
   | true => rfl
   | false =>
    rw [hb2, cond_false, posFs_all] at h1
    rw [cond_false, posFs_all]
    exact h.all (fun x y g hx => g.pos _ _ _ hx) h1
 gr := fun h1 => by
  rw [grF, bA, grFs_all] at h1 ⊢
  refine ⟨?_, h.all (fun x y g hx => g.gr hx) h1.2⟩
  have h2 := h1.1
  cases hk8 : k == 8 with
  | false => rfl
  | true =>
   rw [hk8, Bool.true_and, Bool.not_not] at h2
   rw [Bool.true_and, Bool.not_not]
   cases kids with
   | nil =>
    cases kids' with
    | nil => exact h2
    | cons y m => exact h.elim
   | cons x l =>
    cases kids' with
    | nil => exact h.elim
    | cons y m =>
     rw [posH] at h2 ⊢
     exact h.1.pos _ _ _ h2
 oc := fun y bd h1 => by
  rw [ocF] at h1 ⊢
  cases hc : (k == 0 && !(bd.any fun x => decide (x = nm))) with
  | true => rw [hc] at h1; exact h1
  | false =>
   rw [hc, cond_false, ocFs_in] at h1
   rw [cond_false, ocFs_in]
   obtain ⟨z, hz, h2⟩ := h1
   obtain ⟨x, hx, g⟩ := h.mem z hz
   exact ⟨x, hx, g.oc _ _ h2⟩
 ok := fun ho => by
  obtain ⟨h1, h6, h7⟩ := ho
  refine .mk h1 (by simp only at h6 ⊢; rw [h.len]; exact h6) fun y hy => ?_
  obtain ⟨x, hx, g⟩ := h.mem y hy
  exact g.ok (h7 x hx)
 sem := fun N M T V hN => sem_node N M hs rfl rfl fun ts T hl => h.sem hN T _
def cst (f : GFml) : Bool := f.Kids.length == 0 && (f.Kind == 4 || f.Kind == 5)
def trF (is : Bool) : GFml := ⟨bif is then 4 else 5, 0, empB, [], [], []⟩
theorem cst_tr {x : GFml} (hs : shapedP x = true) (h : cst x = true) : x = trF (x.Kind == 4) := by
 obtain ⟨k, ar, nm, vars, args, kids⟩ := x
 unfold cst at h
 simp only [bA, Bool.or_eq_true, beq_iff_eq] at h
 obtain ⟨h0, hk⟩ := h
 have e0 : kids = [] := List.length_eq_zero_iff.1 h0
 simp only [shapedP, shp1, shp2, shp3, bA, dT] at hs
 obtain ⟨⟨⟨⟨⟨_, _⟩, h3⟩, _⟩, ⟨⟨⟨h4, _⟩, _⟩, _⟩⟩, ⟨⟨⟨_, h5⟩, _⟩, ⟨⟨_, h6⟩, _⟩⟩, _⟩ := hs
 rcases hk with rfl | rfl
 all_goals
  simp [rulesP] at h3 h4 h5 h6
  unfold trF
  simp [e0, h3, h4, h5, h6]
theorem shs_tr (b : Bool) : shsF (trF b) = true := by cases b <;> rfl
theorem sem_tr (N M : Nat) (T : TT) (V : VV) (b : Bool) : sem N M (trF b) T V = b := by
 unfold trF
 cases b
 ·show sem N M ⟨5, _, _, _, _, _⟩ T V = _
  rw [sem]; rfl
 ·show sem N M ⟨4, _, _, _, _, _⟩ T V = _
  rw [sem]; rfl
theorem good_tr {f : GFml} (b : Bool) (hs : ∀ N M T V, 1 ≤ N → sem N M f T V = b) : Good f (trF b) where
 shs := shs_tr b
 nd := by rw [ndF_eq f]; show 1 + ndFs [] ≤ _; rw [ndFs]; omega
 dp := by rw [dpF_eq f]; show dpF (trF b) ≤ _; rw [dpF_eq]; show dpFs [] + 1 ≤ _; rw [dpFs]; omega
 fv := fun s h => by unfold trF at h; rw [fvB, fvBL] at h; cases h
 ar := fun s h => by
  unfold trF
  rw [arF, arFs]
  cases b <;> rfl
 pos := fun s o p h => by
  unfold trF
  rw [posF, posFs]
  cases b <;> rfl
 gr := fun h => by
  unfold trF
  rw [grF, grFs]
  cases b <;> rfl
 oc := fun y bd h => by
  unfold trF at h
  rw [ocF, ocFs] at h
  cases b <;> cases h
 ok := fun _ => .mk ⟨by cases b <;> (show iOk _; unfold iOk; decide), by show iOk 0; unfold iOk; decide, by show strOk empB; unfold strOk; decide, ⟨by simp [trF], by intro x hx; cases hx⟩, ⟨by simp [trF], by intro x hx; cases hx⟩⟩ (by simp [trF]) (by intro x hx; cases hx)
 sem := fun N M T V h => by rw [sem_tr, hs N M T V h]
theorem cloR_succ (R : Nat → Nat → Bool) (L a k y : Nat) : cloR R L a (k + 1) y = (cloR R L a k y || (List.range L).any fun x => cloR R L a k x && R x y) := by rw [cloR]
theorem cloR_mono (R : Nat → Nat → Bool) (L a : Nat) : ∀ (j k y : Nat), cloR R L a k y = true → cloR R L a (k + j) y = true
 | 0, k, y, h => h
 | j + 1, k, y, h => by rw [← Nat.add_assoc, cloR_succ, cloR_mono R L a j k y h, Bool.true_or]
def clT (R : Nat → Nat → Bool) (L a k : Nat) : List Bool := (List.range L).map (cloR R L a k)
theorem clT_len (R : Nat → Nat → Bool) (L a k : Nat) : (clT R L a k).length = L := by simp [clT]
theorem clT_eq {R : Nat → Nat → Bool} {L a j k : Nat} : clT R L a j = clT R L a k ↔ ∀ x, x < L → cloR R L a j x = cloR R L a k x := by
 unfold clT
 rw [List.map_inj_left]
 simp
theorem any_range_congr {L : Nat} {P Q : Nat → Bool} (h : ∀ x, x < L → P x = Q x) : (List.range L).any P = (List.range L).any Q := by
 rw [Bool.eq_iff_iff, List.any_eq_true, List.any_eq_true]
 constructor <;> (rintro ⟨x, hx, hp⟩; have := h x (List.mem_range.1 hx); exact ⟨x, hx, by rw [← hp, this]⟩)
theorem clT_step {R : Nat → Nat → Bool} {L a k : Nat} (h : clT R L a (k + 1) = clT R L a k) : clT R L a (k + 2) = clT R L a (k + 1) := by
 rw [clT_eq] at h ⊢
 intro y hy
 rw [cloR_succ R L a (k + 1) y, h y hy, any_range_congr (Q := fun x => cloR R L a k x && R x y) fun x hx => by rw [h x hx], ← cloR_succ, h y hy]
theorem clT_stay {R : Nat → Nat → Bool} {L a k : Nat} (h : clT R L a (k + 1) = clT R L a k) : ∀ j, clT R L a (k + j) = clT R L a k ∧ clT R L a (k + j + 1) = clT R L a (k + j)
 | 0 => ⟨rfl, h⟩
 | j + 1 => by
  obtain ⟨h1, h2⟩ := clT_stay h j
  exact ⟨h2.trans h1, clT_step h2⟩
theorem getD_map_range (L : Nat) (P : Nat → Bool) (i : Nat) : ((List.range L).map P).getD i false = (decide (i < L) && P i) := by
 rw [List.getD_eq_getElem?_getD, List.getElem?_map]
 by_cases h : i < L
 ·rw [List.getElem?_range h]; simp [h]
 ·rw [List.getElem?_eq_none (by simpa using h)]; simp [h]
theorem clT_grow (R : Nat → Nat → Bool) (L a : Nat) : ∀ k, (∃ j, j < k ∧ clT R L a (j + 1) = clT R L a j) ∨ k ≤ cntB (clT R L a k)
 | 0 => .inr (Nat.zero_le _)
 | k + 1 => by
  by_cases e : clT R L a (k + 1) = clT R L a k
  ·exact .inl ⟨k, Nat.lt_succ_self k, e⟩
  ·rcases clT_grow R L a k with ⟨j, hj, h⟩ | h
   ·exact .inl ⟨j, by omega, h⟩
   ·refine .inr ?_
    have := cnt_lt (clT R L a k) (clT R L a (k + 1)) (by rw [clT_len, clT_len]) (fun i hi => by
     rw [clT, getD_map_range, bA] at hi ⊢
     exact ⟨hi.1, cloR_mono R L a 1 k i hi.2⟩) fun x => e x.symm
    omega
theorem clo_all (R : Nat → Nat → Bool) (L a m y : Nat) (hy : y < L) (h : cloR R L a m y = true) : cloR R L a L y = true := by
 rcases clT_grow R L a (L + 1) with ⟨j, hj, hs⟩ | hc
 ·have key : ∀ i, cloR R L a (j + i) y = cloR R L a j y := fun i => clT_eq.1 (clT_stay hs i).1 y hy
  have hL : cloR R L a L y = cloR R L a j y := by have := key (L - j); rwa [show j + (L - j) = L by omega] at this
  rw [hL]
  by_cases hm : m ≤ j
  ·have := cloR_mono R L a (j - m) m y h; rwa [show m + (j - m) = j by omega] at this
  ·have := key (m - j); rw [show j + (m - j) = m by omega] at this; rw [← this]; exact h
 ·have := cnt_le (clT R L a (L + 1)); rw [clT_len] at this; omega
structure BI (R : Nat → Nat → Bool) (L a : Nat) (met : List Bool) (todo : List Nat) : Prop where
 len : met.length = L
 td : ∀ x ∈ todo, met.getD x false = true
 sound : ∀ y, met.getD y false = true → ∃ k, cloR R L a k y = true
 start : met.getD a false = true
 closed : ∀ x, met.getD x false = true → x ∉ todo → ∀ y, y < L → R x y = true → met.getD y false = true
structure BJ (R : Nat → Nat → Bool) (L a : Nat) (met : List Bool) (todo : List Nat) (x j : Nat) : Prop where
 len : met.length = L
 td : ∀ x ∈ todo, met.getD x false = true
 sound : ∀ y, met.getD y false = true → ∃ k, cloR R L a k y = true
 start : met.getD a false = true
 closed : ∀ x', met.getD x' false = true → x' ∉ todo → x' ≠ x → ∀ y, y < L → R x' y = true → met.getD y false = true
 here : ∀ y, y < j → R x y = true → met.getD y false = true
 xm : met.getD x false = true
section
variable {R : Nat → Nat → Bool} {L a : Nat} {met : List Bool} {todo : List Nat} {x j : Nat}
theorem getD_lt {l : List Bool} {i : Nat} (h : l.getD i false = true) : i < l.length := by
 by_cases hl : i < l.length
 ·exact hl
 ·rw [List.getD_eq_getElem?_getD, List.getElem?_eq_none (by omega)] at h; cases h
theorem getD_set (l : List Bool) (i j : Nat) (hi : i < l.length) : (l.set i true).getD j false = (decide (i = j) || l.getD j false) := by
 rw [List.getD_eq_getElem?_getD, List.getD_eq_getElem?_getD, List.getElem?_set]
 by_cases e : i = j
 ·subst e; simp [hi]
 ·simp [e]
theorem BI.init (ha : a < L) : BI R L a ((falses L).set a true) [a] := by
 have hl : a < (falses L).length := by rw [falses_len]; exact ha
 have hf : ∀ y, (falses L).getD y false = false := fun y => by
  unfold falses; rw [List.getD_eq_getElem?_getD, List.getElem?_replicate]; split <;> rfl
 have hg : ∀ y, ((falses L).set a true).getD y false = true ↔ a = y := fun y => by rw [getD_set _ _ _ hl, hf]; simp
 refine ⟨by rw [List.length_set, falses_len], fun x hx => ?_, fun y hy => ⟨0, ?_⟩, (hg a).2 rfl, fun x hx hn => ?_⟩
 ·rw [List.mem_singleton.1 hx]; exact (hg a).2 rfl
 ·rw [cloR, (hg y).1 hy]; simp
 ·exact (hn (by rw [(hg x).1 hx]; simp)).elim
theorem BI.pop (h : BI R L a met (x :: todo)) : BJ R L a met todo x 0 :=
 ⟨h.len, fun y hy => h.td y (by simp [hy]), h.sound, h.start, fun x' h1 h2 h3 => h.closed x' h1 (by simp [h2, h3]), fun y hy => by omega, h.td x (by simp)⟩
theorem BJ.no (h : BJ R L a met todo x j) (hn : met.getD j false = true ∨ R x j = false) : BJ R L a met todo x (j + 1) := by
 refine ⟨h.len, h.td, h.sound, h.start, h.closed, fun y hy hr => ?_, h.xm⟩
 by_cases e : y = j
 ·subst e
  rcases hn with hn | hn
  ·exact hn
  ·rw [hn] at hr; cases hr
 ·exact h.here y (by omega) hr
theorem BJ.yes (h : BJ R L a met todo x j) (hj : j < L) (hr : R x j = true) : BJ R L a (met.set j true) (todo ++ [j]) x (j + 1) := by
 have hl : j < met.length := by rw [h.len]; exact hj
 have hg : ∀ y, (met.set j true).getD y false = true ↔ j = y ∨ met.getD y false = true := fun y => by rw [getD_set _ _ _ hl]; simp
 have up : ∀ y, met.getD y false = true → (met.set j true).getD y false = true := fun y hy => (hg y).2 (.inr hy)
 refine ⟨by rw [List.length_set, h.len], fun y hy => ?_, fun y hy => ?_, up _ h.start, fun x' h1 h2 h3 y hy hr' => ?_, fun y hy hr' => ?_, up _ h.xm⟩
 ·rcases List.mem_append.1 hy with hy | hy
  ·exact up _ (h.td y hy)
  ·rw [List.mem_singleton.1 hy]; exact (hg j).2 (.inl rfl)
 ·rcases (hg y).1 hy with rfl | hy
  ·obtain ⟨k, hk⟩ := h.sound x h.xm
   refine ⟨k + 1, ?_⟩
   rw [cloR_succ, Bool.or_eq_true]
   exact .inr (List.any_eq_true.2 ⟨x, List.mem_range.2 (by rw [← h.len]; exact getD_lt h.xm), by simp [hk, hr]⟩)
  ·exact h.sound y hy
 ·rcases (hg x').1 h1 with rfl | h1
  ·exact (h2 (by simp)).elim
  ·exact up _ (h.closed x' h1 (fun e => h2 (by simp [e])) h3 y hy hr')
 ·by_cases e : y = j
  ·subst e; exact (hg y).2 (.inl rfl)
  ·exact up _ (h.here y (by omega) hr')
theorem BJ.done (h : BJ R L a met todo x L) : BI R L a met todo :=
 ⟨h.len, h.td, h.sound, h.start, fun x' h1 h2 y hy hr => by
  by_cases e : x' = x
  ·subst e; exact h.here y hy hr
  ·exact h.closed x' h1 h2 e y hy hr⟩
theorem BI.fin (h : BI R L a met []) (y : Nat) (hy : y < L) : met.getD y false = cloR R L a L y := by
 rw [Bool.eq_iff_iff]
 constructor
 ·intro hm
  obtain ⟨k, hk⟩ := h.sound y hm
  exact clo_all R L a k y hy hk
 ·have key : ∀ k y, y < L → cloR R L a k y = true → met.getD y false = true := by
   intro k
   induction k with
   | zero =>
    intro y hy hc
    rw [cloR, beq_iff_eq] at hc
    rw [hc]; exact h.start
   | succ k ih =>
    intro y hy hc
    rw [cloR_succ, Bool.or_eq_true] at hc
    rcases hc with hc | hc
    ·exact ih y hy hc
    ·obtain ⟨x, hx, hc⟩ := List.any_eq_true.1 hc
     rw [bA] at hc
     exact h.closed x (ih x (List.mem_range.1 hx) hc.1) (by simp) y hy hc.2
  exact key L y hy
theorem cnt_set (hj : j < met.length) (hn : met.getD j false = false) : cntB met < cntB (met.set j true) := by
 refine cnt_lt _ _ (by rw [List.length_set]) (fun i hi => by rw [getD_set _ _ _ hj, hi, Bool.or_true]) fun e => ?_
 have := getD_set met j j hj
 rw [← e, hn] at this
 simp at this
end
theorem Tri.reorder {P : Program} {f : FuncId} {args : List AV} {ah ah' : AH} {Φ Ψ : AEnd → AH → Prop} (h : Tri P f args ah Φ) (p : ah'.Perm ah) (k : ∀ x h, Φ x h → ∃ h', Ψ x h' ∧ h.Perm h') : Tri P f args ah' Ψ :=
 ⟨h.1, fun Fr w vs hst hrel => ((permPre h p).2 Fr w vs hst hrel).mono fun e w' he => he.reorder k⟩
theorem perm_kid {α : Type} (x y : α) (W A P R Q : List α) : (x :: (W ++ (A ++ (P ++ (y :: R ++ Q))))).Perm (y :: (W ++ R) ++ x :: (A ++ (P ++ Q))) := by
 classical
 rw [List.perm_iff_count]
 intro a
 simp only [List.count_cons, List.count_append]
 omega
theorem nownL_app : ∀ a b : List NT, nownL (a ++ b) = nownL a ++ nownL b
 | [], b => by rw [nownL]; rfl
 | n :: a, b => by rw [List.cons_append, nownL, nownL, nownL_app a b, List.append_assoc]
def NT.put (n : NT) (i : Nat) (k : NT) : NT := .mk n.b n.f n.m (n.kids.set i k)
theorem NT.put_b (n : NT) (i : Nat) (k : NT) : (n.put i k).b = n.b := rfl
theorem NT.put_f (n : NT) (i : Nat) (k : NT) : (n.put i k).f = n.f := rfl
theorem NT.put_m (n : NT) (i : Nat) (k : NT) : (n.put i k).m = n.m := rfl
theorem NT.put_kids (n : NT) (i : Nat) (k : NT) : (n.put i k).kids = n.kids.set i k := rfl
theorem NT.put_get {n : NT} {i : Nat} {k k' : NT} (h : n.kids[i]? = some k) : (n.put i k').kids[i]? = some k' := by
 rw [NT.put_kids, List.getElem?_set_self (List.getElem?_eq_some_iff.1 h).1]
theorem set_of_mid {α : Type} {l : List α} {i : Nat} {x : α} (h : l[i]? = some x) (y : α) : l = l.take i ++ x :: l.drop (i + 1) ∧ l.set i y = l.take i ++ y :: l.drop (i + 1) :=
 ⟨(mem_split h).1, (mem_split h).2 y⟩
theorem map_set_same {α β : Type} {g : α → β} {l : List α} {i : Nat} {x y : α} (h : l[i]? = some x) (e : g y = g x) : (l.set i y).map g = l.map g := by
 obtain ⟨h1, h2⟩ := set_of_mid h y
 rw [h2]
 conv => rhs; rw [h1]
 simp only [List.map_append, List.map_cons, e]
theorem hH_kid (bw : Nat) (s : WS) {n k : NT} {i : Nat} (h : n.kids[i]? = some k) : ∃ rest : AH, (hH bw s n).Perm (hH bw s k ++ n.bx :: rest) ∧ ∀ (s' : WS) (k' : NT), k'.b = k.b → (hH bw s' k' ++ n.bx :: rest).Perm (hH bw s' (n.put i k')) := by
 have key : ∀ (s' : WS) (k' : NT), k'.b = k.b → (hH bw s' (n.put i k')).Perm (hH bw s' k' ++ n.bx :: (n.m.own ++ (nownL (n.kids.take i) ++ nownL (n.kids.drop (i + 1))))) := fun s' k' hb => by
  have hbx : (n.put i k').bx = n.bx := by
   unfold NT.bx; rw [NT.put_b, NT.put_f, NT.put_m, NT.put_kids, map_set_same h hb]
  unfold hH NT.rest
  rw [hbx, NT.put_m, NT.put_kids, (set_of_mid h k').2, nownL_app, nownL, nown_eq]
  exact perm_kid n.bx k'.bx (wH bw s') n.m.own (nownL (n.kids.take i)) k'.rest _
 refine ⟨_, ?_, fun s' k' hb => (key s' k' hb).symm⟩
 have := key s k rfl
 have e : n.put i k = n := by
  cases n with
  | mk b f m kids =>
   show NT.mk b f m (kids.set i k) = _
   have h' : kids[i]? = some k := h
   rw [(set_of_mid h' k).2, ← (set_of_mid h' k).1]
 rwa [e] at this
def GPost (bw : Nat) (n : NT) (Q : AEnd → WS → NT → AH → Prop) : AEnd → AH → Prop := fun x h => ∃ s' n' Z, h = Z ++ hH bw s' n' ∧ n'.b = n.b ∧ n'.f = n.f ∧ Q x s' n' Z
theorem HPost.g {bw : Nat} {s : WS} {n : NT} {K : NT → Prop} {v : AV} {Y : AH} {x : AEnd} {h : AH} (hp : HPost bw s n K v Y x h) : GPost bw n (fun x s' n' Z => x = .ret v ∧ Z = Y ∧ Same s s' ∧ K n') x h := by
 obtain ⟨e, s', n', rfl, hs, hb, hf, hk⟩ := hp
 exact ⟨s', n', Y, rfl, hb, hf, e, rfl, hs, hk⟩
theorem GPost.h {bw : Nat} {s : WS} {n : NT} {K : NT → Prop} {v : AV} {Y : AH} {x : AEnd} {h : AH} (hp : GPost bw n (fun x s' n' Z => x = .ret v ∧ Z = Y ∧ Same s s' ∧ K n') x h) : HPost bw s n K v Y x h := by
 obtain ⟨s', n', Z, rfl, hb, hf, e, rfl, hs, hk⟩ := hp
 exact ⟨e, s', n', rfl, hs, hb, hf, hk⟩
theorem kidTri {P : Program} {bw : Nat} {s : WS} {n k : NT} {i : Nat} (h : n.kids[i]? = some k) {f : FuncId} {args : List AV} {Y : AH} {Q : AEnd → WS → NT → AH → Prop} (t : Tri P f args (Y ++ hH bw s k) (GPost bw k Q)) :
  Tri P f args (Y ++ hH bw s n) (GPost bw n fun x s' n' Z => ∃ k', n' = n.put i k' ∧ k'.b = k.b ∧ k'.f = k.f ∧ Q x s' k' Z) := by
 obtain ⟨rest, p1, p2⟩ := hH_kid bw s h
 refine Tri.reorder (t.behind (n.bx :: rest)) ((p1.append_left Y).trans (by rw [List.append_assoc])) ?_
 rintro x hh ⟨_, ⟨s', k', Z, rfl, hb, hf, hq⟩, rfl⟩
 exact ⟨Z ++ hH bw s' (n.put i k'), ⟨s', n.put i k', Z, rfl, rfl, rfl, k', rfl, hb, hf, hq⟩, by rw [List.append_assoc]; exact (p2 s' k' hb).append_left Z⟩
theorem kidH {P : Program} {bw : Nat} {s : WS} {n k : NT} {i : Nat} (h : n.kids[i]? = some k) {f : FuncId} {args : List AV} {Y Y' : AH} {K K' : NT → Prop} {v : AV} (t : Tri P f args (Y ++ hH bw s k) (HPost bw s k K v Y'))
  (hK : ∀ k', k'.b = k.b → k'.f = k.f → K k' → K' (n.put i k')) : Tri P f args (Y ++ hH bw s n) (HPost bw s n K' v Y') :=
 (kidTri h (t.mono fun _ _ q => q.g)).mono fun x hh ⟨s', n', Z, e1, e2, e3, k', e4, e5, e6, e7, e8, e9, e10⟩ => ⟨e7, s', n', by rw [e1, e8], e9, e2, e3, by rw [e4]; exact hK k' e5 e6 e10⟩
theorem KOkL_set {N M : Nat} {T0 : TT} {k' : NT} (hk : KOk N M T0 k') : ∀ {l : List NT} {i : Nat}, KOkL N M T0 l → KOkL N M T0 (l.set i k')
 | [], i, h => by cases i <;> exact h
 | x :: l, 0, h => by rw [KOkL] at h; rw [sB, KOkL]; exact ⟨hk, h.2⟩
 | x :: l, i + 1, h => by rw [KOkL] at h; rw [sA, KOkL]; exact ⟨h.1, KOkL_set hk h.2⟩
theorem KOk_put {N M : Nat} {T0 : TT} {n k k' : NT} {i : Nat} (h : KOk N M T0 n) (hi : n.kids[i]? = some k) (hf : k'.f = k.f) (hk : KOk N M T0 k') : KOk N M T0 (n.put i k') := by
 rw [KOk_eq] at h ⊢
 refine ⟨h.1, ?_, KOkL_set hk h.2.2⟩
 rw [NT.put_kids, map_set_same hi hf]; exact h.2.1
theorem KOk_kid {N M : Nat} {T0 : TT} {n : NT} (h : KOk N M T0 n) {i : Nat} {x : GFml} (hx : n.f.Kids[i]? = some x) : ∃ k, n.kids[i]? = some k ∧ k.f = x ∧ KOk N M T0 k := by
 rw [KOk_eq] at h
 have hl : n.kids.length = n.f.Kids.length := by rw [← h.2.1, lM]
 obtain ⟨k, hk⟩ := get_lt (show i < n.kids.length by have := (List.getElem?_eq_some_iff.1 hx).1; omega)
 refine ⟨k, hk, ?_, KOkL_mem h.2.2 k (lG hk)⟩
 have : (n.kids.map NT.f)[i]? = some k.f := by rw [List.getElem?_map, hk]; rfl
 rw [h.2.1, hx] at this
 exact (Option.some.inj this).symm
theorem tup_zero {n : Nat} : ∀ m, tup n m 0 = List.replicate m 0
 | 0 => rfl
 | m + 1 => by rw [tup, Nat.zero_div, Nat.zero_mod, tup_zero m, List.replicate_succ']; rfl
def HoldsAt (bw : Nat) (K : NT → Prop) (s : WS) (n : NT) (names : List ByteArray) (t : List Int) (v : Bool) : Prop :=
 ∀ (s' : WS) (n' : NT), s'.Ok → s'.N = s.N → s'.base = s.base → s'.ts = s.ts → s'.ns = s.ns ++ names → s'.vs = s.vs ++ t → n'.b = n.b → n'.f = n.f → K n' →
  Tri Tryz.prog 155 [.ref bw 0, .ref n'.b 0] (hH bw s' n') (HPost bw s' n' K (.bool v) [])
theorem tup_next (b n m i : Nat) (hn : 1 ≤ n ∧ n ≤ 64) (hm : m ≤ 100000) (hi : i < n ^ m) :
  Tri Tryz.prog 193 [.osl b m m, .int .i64 n] [.row b ((tup n m i).map iav)] (D (.bool (decide (i + 1 < n ^ m))) [.row b ((tup n m ((i + 1) % n ^ m)).map iav)]) := by
 have h := ref_next b m n (tup n m i) (tup_len n m i) hn (fun x hx => tup_mem (by omega) m i x hx) hm
 rw [nxR_tup (by omega) m i hi] at h
 simpa using h
theorem w_some (bw : Nat) (K : NT → Prop) (φ : Nat → Bool) (nt : Bool) (n : NT) (s : WS) (names : List ByteArray) (hs : s.Ok) (hn : s.ns.length + names.length ≤ 100000) (hk : K n)
  (H : ∀ i, i < s.N ^ names.length → HoldsAt bw K s n names (tup s.N names.length i) (φ i)) :
  Tri Tryz.prog 178 [.ref bw 0, strs names, .ref n.b 0, .bool nt] (hH bw s n) (HPost bw s n K (.bool ((List.range (s.N ^ names.length)).any fun i => φ i != nt)) []) := by
 have hMx : (some (AV.int .i64 (names.map AV.str).length)) = some (.int .i64 (names.length : Nat)) := by rw [lM]
 have hL : 0 < s.N ^ names.length := Nat.pow_pos (by have := hs.n1; omega)
 generalize hLL : s.N ^ names.length = L at *
 refine Tri.enter 27 Tryz.func178 rfl rfl rfl rfl fun Fr w0 => ?_
 repeat' (first | refine AW.re 0 1 ?_ | refine AW.go ?_ | fail)
 repeat' (first | (refine xS 1 2 ?_; refine AL.makeSlice (n := names.length) (e := 3) (c := .int .i64 0) (z := .int .i64 0) (bytes := 8) hMx hMx (by kernel_rfl) rfl (by omega) (by omega) rfl fun bt => ?_; refine xN 1 ?_) | refine AW.go ?_ | fail)
 refine AW.prune [0, 1, 2, 3, 9] (AW.loop (fun mz af h => ∃ (i : Nat) (s' : WS) (n' : NT), i < L ∧ mz = L - i ∧ af = [(0, .ref bw 0), (1, strs names), (2, .ref n.b 0), (3, .bool nt), (9, .osl bt names.length names.length)] ∧ h = .row bt ((tup s.N names.length i).map iav) :: hH bw s' n' ∧ Same s s' ∧ n'.b = n.b ∧ n'.f = n.f ∧ K n' ∧ ((List.range i).any fun i => φ i != nt) = false) L ⟨0, s, n, hL, rfl, rfl, by rw [tup_zero, List.map_replicate]; rfl, Same.refl hs, rfl, rfl, hk, rfl⟩ ?_)
 rintro mz af h ⟨i, s1, n1, hi, rfl, rfl, rfl, sm, nb, nf, hk1, he⟩
 have htl := tup_len s.N names.length i
 have hW := w_With_own bw K (φ i) n1 s1 names (tup s.N names.length i) bt names.length [] sm.ok htl (by rw [sm.ns]; exact hn) (fun x hx => by rw [sm.N]; exact tup_mem (by have := hs.n1; omega) _ _ x hx)
  (fun s' h1 h2 h3 h4 h5 h6 => H i (by rw [hLL] at *; exact hi) s' n1 h1 (h2.trans sm.N) (h3.trans sm.base) (h4.trans sm.ts) (by rw [h5, sm.ns]) (by rw [h6, sm.vs]) nb nf hk1)
 rw [htl, List.append_nil, nb] at hW
 refine AW.block ?_
 refine AW.seq ?_
 repeat' (first | (refine xS 2 4 ?_; (refine AL.callQ rfl rfl hW rfl ?_ ?_; rotate_left; rintro _ _ ⟨e, _⟩; cases e; rintro _ _ ⟨e, s2, n2, rfl, sm2, nb2, nf2, hk2⟩; injection e with e; subst e) <;> refine AL.es 1 ?_ <;> (refine AL.d AOp.bn ?_) <;> refine AL.nil ?_) | refine AW.re 3 1 ?_ | refine AW.jj (fun hb => ?_) (fun hb => ?_) | refine AW.go ?_ | fail)
 ·refine AW.ret_drop rfl (List.sublist_cons_self _ _) ⟨congrArg (fun b => AEnd.ret (AV.bool b)) ?_, s2, n2, rfl, sm.trans sm2, nb2.trans nb, nf2.trans nf, hk2⟩
  symm
  rw [List.any_eq_true]
  exact ⟨i, List.mem_range.2 hi, hb⟩
 ·have hN2 : s2.N = s.N := by rw [sm2.N, sm.N]
  have he2 : ((List.range (i + 1)).any fun i => φ i != nt) = false := by
   have h1 : (φ i != nt) = false := hb
   rw [List.range_succ, List.any_append, he, List.any_cons, h1]; rfl
  have hX : Tri Tryz.prog 193 [.osl bt names.length names.length, .int .i64 s2.N] (.row bt ((tup s.N names.length i).map iav) :: hH bw s2 n2) (D (.bool (decide (i + 1 < L))) (.row bt ((tup s.N names.length ((i + 1) % L)).map iav) :: hH bw s2 n2)) := by
   have := (tup_next bt s.N names.length i ⟨hs.n1, hs.n2⟩ (by omega) (by rw [hLL]; exact hi)).aroundD [] (hH bw s2 n2)
   rw [hLL] at this
   rw [hN2]; exact this
  repeat' (first | (refine xS 4 3 ?_; refine AL.d (AOp.fr 0) ?_; refine AL.d (AOp.ll 2) ?_; refine AL.d (AOp.call rfl rfl hX) ?_; refine xN 1 ?_) | refine AW.jj (fun hb => ?_) (fun hb => ?_) | refine AW.go ?_ | fail)
  ·have hb : decide (i + 1 < L) = false := by simpa using hb
   repeat' (first | refine AW.re 5 1 ?_ | fail)
   refine AW.ret_drop rfl (List.sublist_cons_self _ _) ⟨congrArg (fun b => AEnd.ret (AV.bool b)) ?_, s2, n2, rfl, sm.trans sm2, nb2.trans nb, nf2.trans nf, hk2⟩
   rw [show L = i + 1 by have := of_decide_eq_false hb; omega, he2]
  ·have hb : i + 1 < L := by simpa using hb
   refine AW.again_keep (L - (i + 1)) [0, 1, 2, 3, 9] (by omega) ⟨i + 1, s2, n2, hb, rfl, rfl, ?_, sm.trans sm2, nb2.trans nb, nf2.trans nf, hk2, he2⟩
   rw [Nat.mod_eq_of_lt hb]
def ppow (n : Int) : Nat → Int → Int
 | 0, p => p
 | k + 1, p => if p ≤ 4096 then ppow n k (p * n) else p
theorem ppow_val {n : Nat} (hn : 1 ≤ n) : ∀ (k p : Nat), 1 ≤ p → (p * n ^ k ≤ 4096 → ppow n k p = (p * n ^ k : Nat)) ∧ (ppow n k p ≤ 4096 → p * n ^ k ≤ 4096) ∧ 1 ≤ ppow n k p
 | 0, p, hp => by rw [ppow, Nat.pow_zero, Nat.mul_one]; exact ⟨fun _ => rfl, fun h => by omega, by omega⟩
 | k + 1, p, hp => by
  have e : p * n ^ (k + 1) = (p * n) * n ^ k := by rw [Nat.pow_succ, Nat.mul_comm (n ^ k) n, Nat.mul_assoc]
  obtain ⟨h1, h2, h3⟩ := ppow_val hn k (p * n) (Nat.mul_pos hp hn)
  rw [ppow, e]
  by_cases h : (p : Int) ≤ 4096
  ·rw [if_pos h, ← Int.natCast_mul]; exact ⟨h1, h2, h3⟩
  ·rw [if_neg h]
   refine ⟨fun hle => ?_, fun hle => absurd hle h, by omega⟩
   have : p * 1 ≤ p * n := Nat.mul_le_mul_left p hn
   have : p * n * 1 ≤ p * n * n ^ k := Nat.mul_le_mul_left _ (Nat.pow_pos hn)
   omega
theorem ref_Pow (n k : Int) (hn : 1 ≤ n ∧ n ≤ 64) (hk : 0 ≤ k ∧ k ≤ 1000000) : Tri Tryz.prog 63 [.int .i64 n, .int .i64 k] [] (D (.int .i64 (ppow n k.toNat 1)) []) := by
 refine Tri.enter 20 Tryz.func63 rfl rfl rfl rfl fun Fr w0 => ?_
 repeat' (first | refine AW.re 0 1 ?_ | refine AW.re 1 1 ?_ | refine AW.re 2 1 ?_ | refine AW.go ?_ | fail)
 refine AW.prune [0, 1, 5, 6] (AW.loop (fun mz af h => ∃ (i : Nat) (p : Int), i ≤ k.toNat ∧ mz = k.toNat - i ∧ af = [(0, .int .i64 n), (1, .int .i64 k), (5, .int .i64 p), (6, .int .i64 i)] ∧ h = [] ∧ (1 ≤ p ∧ p ≤ 4096 * 64 ∧ ppow n k.toNat 1 = ppow n (k.toNat - i) p)) k.toNat ⟨0, 1, Nat.zero_le _, rfl, rfl, rfl, ⟨by omega, by omega, rfl⟩⟩ ?_)
 rintro mz af h ⟨i, p, hi, rfl, rfl, rfl, he⟩
 refine AW.seq ?_
 by_cases hlt : i < k.toNat
 all_goals obtain ⟨h1, h2, he⟩ := he
 ·rw [show k.toNat - i = (k.toNat - (i + 1)) + 1 by omega, ppow] at he
  by_cases hp : p ≤ 4096
  ·have m1 : p * 1 ≤ p * n := Int.mul_le_mul_of_nonneg_left hn.1 (by omega)
   have m2 : p * n ≤ 4096 * 64 := Int.mul_le_mul hp hn.2 (by omega) (by omega)
   rw [if_pos hp] at he
   repeat' (first | (refine xS 3 4 ?_; ((refine AL.gx (fun hb => ?_) (fun hb => ?_) <;> refine AL.es 3 ?_)) <;> refine AL.nil ?_) | (refine xS 5 2 ?_; refine AL.d (AOp.mul rfl rfl (by omega)) ?_; refine xN 1 ?_) | (refine xS 4 1 ?_; refine AL.d AOp.ad ?_; refine xN 1 ?_) | refine AW.jf ?_ | refine AW.jj (fun hb => ?_) (fun hb => ?_) | refine AW.go ?_ | fail)
   all_goals try (exfalso; simp only [dT, dF, lM] at *; omega)
   refine AW.again_keep (k.toNat - (i + 1)) [0, 1, 5, 6] (by omega) ⟨i + 1, p * n, hlt, rfl, rfl, rfl, ?_⟩
   exact ⟨by omega, by omega, he⟩
  ·rw [if_neg hp] at he
   repeat' (first | (refine xS 3 4 ?_; ((refine AL.gx (fun hb => ?_) (fun hb => ?_) <;> refine AL.es 3 ?_)) <;> refine AL.nil ?_) | refine AW.re 6 2 ?_ | refine AW.jf ?_ | refine AW.jj (fun hb => ?_) (fun hb => ?_) | refine AW.go ?_ | fail)
   all_goals try (exfalso; simp only [dT, dF, lM] at *; omega)
   exact AW.retv rfl ⟨by rw [he], rfl⟩
 ·rw [show k.toNat - i = 0 by omega, ppow] at he
  repeat' (first | (refine xS 3 4 ?_; ((refine AL.gx (fun hb => ?_) (fun hb => ?_) <;> refine AL.es 3 ?_)) <;> refine AL.nil ?_) | refine AW.re 6 2 ?_ | refine AW.jf ?_ | refine AW.jj (fun hb => ?_) (fun hb => ?_) | refine AW.go ?_ | fail)
  all_goals try (exfalso; simp only [dT, dF, lM] at *; omega)
  exact AW.retv rfl ⟨by rw [he], rfl⟩
theorem ref_PowN (n k : Nat) (hn : 1 ≤ n ∧ n ≤ 64) (hk : k ≤ 1000000) (hp : n ^ k ≤ 4096) : Tri Tryz.prog 63 [.int .i64 n, .int .i64 k] [] (D (.int .i64 (n ^ k : Nat)) []) := by
 have h := ref_Pow n k (by omega) (by omega)
 have e : ppow n k 1 = (n ^ k : Nat) := by have := (ppow_val hn.1 k 1 (Nat.le_refl _)).1 (by omega); rw [Nat.one_mul] at this; exact this
 rw [Int.toNat_natCast, e] at h; exact h
theorem falses_map (m : Nat) : (falses m).map bav = List.replicate m (.bool false) := by unfold falses; rw [List.map_replicate]; rfl
def zTb : AV := .st [.str empB, .int .i64 0, .sl []]
theorem ref_TableNew (n k : Nat) (nm : ByteArray) (hn : 1 ≤ n ∧ n ≤ 64) (hk : k ≤ 1000000) (hp : n ^ k ≤ 4096) :
  Tri Tryz.prog 154 [.int .i64 n, .str nm, .int .i64 k, .sl []] [] (fun x h => ∃ b, x = .ret (.st [.str nm, .int .i64 k, .osl b (n ^ k) (n ^ k)]) ∧ h = [.row b (List.replicate (n ^ k) (.bool false))]) := by
 have hP := ref_PowN n k hn hk hp
 generalize n ^ k = m at *
 refine Tri.enter 34 Tryz.func154 rfl rfl rfl rfl fun Fr w0 => ?_
 repeat' (first | (refine AW.r 0 ?_; refine AL.alloc_z zTb (by kernel_rfl) rfl rfl fun b8 => ?_; refine AL.nil ?_) | refine AW.go ?_ | fail)
 repeat' (first | (refine xS 1 4 ?_; refine AL.d (AOp.call rfl rfl (hP.pure _)) ?_; refine AL.makeSlice (n := m) (e := 4) (c := .bool false) (z := .bool false) (bytes := 1) rfl rfl (by kernel_rfl) rfl (by omega) (by omega) rfl fun b => ?_; refine AL.d (AOp.build (pl := [(0, 1), (1, 1), (2, 1)]) (z := .st [.str ⟨#[]⟩, .int .i64 0, .sl []]) (by kernel_rfl) rfl rfl rfl) ?_ <;> refine AL.alloc_store (by kernel_rfl) rfl rfl rfl rfl ?_ <;> refine AL.nil ?_) | refine AW.re 2 1 ?_ | refine AW.go ?_ | fail)
 refine AW.prune [0, 3, 8, 9, 10] (AW.loop (fun mz af h => ∃ (i : Nat), i ≤ 0 ∧ mz = 0 - i ∧ af = [(0, .int .i64 n), (3, .sl []), (8, .ref b8 0), (9, .at (.st [.str nm, .int .i64 k, .osl b m m])), (10, .int .i64 i)] ∧ h = [.row b (List.replicate m (.bool false)), .box b8 zTb] ∧ True) 0 ⟨0, Nat.zero_le _, rfl, rfl, rfl, trivial⟩ ?_)
 rintro mz af h ⟨i, hi, rfl, rfl, rfl, he⟩
 refine AW.seq ?_
 by_cases hlt : i < 0
 ·omega
 ·repeat' (first | refine AW.re 3 4 ?_ | refine AW.jf ?_ | refine AW.go ?_ | fail)
  all_goals try (exfalso; simp only [dT, dF, List.length_nil] at *; omega)
  repeat' (first | (refine AW.r 6 ?_; refine AL.d AOp.la ?_; refine AL.sl 1 ?_; refine AL.nil ?_) | fail)
  exact AW.retc (vs := [.st [.str nm, .int .i64 k, .osl b m m]]) (.cell 1 rfl rfl (by kernel_rfl) .nil) (ah' := [.row b (List.replicate m (.bool false))]) (by simp) ⟨b, rfl, rfl⟩
theorem ref_same (ba bb m : Nat) (a b : List Bool) (ha : a.length = m) (hb0 : b.length = m) (hm : m ≤ 1000000) :
  Tri Tryz.prog 214 [.osl ba m m, .osl bb m m] [.row ba (a.map bav), .row bb (b.map bav)] (D (.bool (decide (a = b))) [.row ba (a.map bav), .row bb (b.map bav)]) := by
 refine Tri.enter 21 Tryz.func214 rfl rfl rfl rfl fun Fr w0 => ?_
 repeat' (first | refine AW.re 0 1 ?_ | refine AW.re 1 1 ?_ | refine AW.go ?_ | fail)
 refine AW.prune [0, 1, 5] (AW.loop (fun mz af h => ∃ (i : Nat), i ≤ m ∧ mz = m - i ∧ af = [(0, .osl ba m m), (1, .osl bb m m), (5, .int .i64 i)] ∧ h = [.row ba (a.map bav), .row bb (b.map bav)] ∧ decide (a = b) = decide (a.drop i = b.drop i)) m ⟨0, Nat.zero_le _, rfl, rfl, rfl, rfl⟩ ?_)
 rintro mz af h ⟨i, hi, rfl, rfl, rfl, he⟩
 refine AW.seq ?_
 by_cases hlt : i < m
 ·obtain ⟨x, hx⟩ := get_lt (show i < a.length by omega)
  obtain ⟨y, hy⟩ := get_lt (show i < b.length by omega)
  have hx' : (a.map bav)[((i : Nat) : Int).toNat]? = some (bav x) := map_get hx
  have hy' : (b.map bav)[((i : Nat) : Int).toNat]? = some (bav y) := map_get hy
  rw [drop_cons hx, drop_cons hy] at he
  repeat' (first | refine AW.re 2 4 ?_ | (refine AW.dq 4 ?_; refine AQ.es 2 ?_; refine AQ.p rfl (AOp.index_osl rfl rfl (by omega) (by omega) (by kernel_rfl)) ?_; refine AQ.p rfl (AOp.load_cell 0 rfl rfl hx' rfl (by kernel_rfl)) ?_; refine AQ.es 2 ?_; refine AQ.p rfl (AOp.index_osl rfl rfl (by omega) (by omega) (by kernel_rfl)) ?_; refine AQ.p rfl (AOp.load_cell 1 rfl rfl hy' rfl (by kernel_rfl)) ?_; refine AQ.p rfl AOp.bn ?_; refine AQ.nil ?_) | refine AW.re 5 1 ?_ | refine AW.jj (fun hb => ?_) (fun hb => ?_) | refine AW.go ?_ | fail)
  all_goals try (exfalso; simp only [dT, dF, lM] at *; omega)
  ·refine AW.retv rfl ⟨retB ?_, rfl⟩
   rw [he]
   revert hb; cases x <;> cases y <;> simp
  ·repeat' (first | (refine xS 3 1 ?_; refine AL.d AOp.ad ?_; refine xN 1 ?_) | fail)
   refine AW.again_keep (m - (i + 1)) [0, 1, 5] (by omega) ⟨i + 1, hlt, rfl, rfl, rfl, ?_⟩
   rw [he]
   revert hb; cases x <;> cases y <;> simp
 ·rw [List.drop_eq_nil_of_le (by omega), List.drop_eq_nil_of_le (by omega)] at he
  repeat' (first | refine AW.re 2 4 ?_ | refine AW.re 6 1 ?_ | refine AW.jj (fun hb => ?_) (fun hb => ?_) | refine AW.go ?_ | fail)
  all_goals try (exfalso; simp only [dT, dF, lM] at *; omega)
  exact AW.retv rfl ⟨by rw [he]; rfl, rfl⟩
def bit8 (b : Bool) : UInt8 := if b then 1 else 0
def keyB (l : List Bool) : ByteArray := ⟨(l.map bit8).toArray⟩
theorem keyB_inj {a b : List Bool} (h : keyB a = keyB b) : a = b := by
 have h1 : (a.map bit8) = (b.map bit8) := by
  have := congrArg (fun x : ByteArray => x.data.toList) h
  simpa [keyB] using this
 exact List.map_inj_right (by intro x y; cases x <;> cases y <;> simp [bit8]) |>.1 h1
def kav (b : Bool) : AV := .int .u8 (if b then 1 else 0)
theorem ref_key (ba m : Nat) (a : List Bool) (ha : a.length = m) (hm : m ≤ 1000000) :
  Tri Tryz.prog 215 [.osl ba m m] [.row ba (a.map bav)] (D (.str (keyB a)) [.row ba (a.map bav)]) := by
 refine Tri.enter 23 Tryz.func215 rfl rfl rfl rfl fun Fr w0 => ?_
 repeat' (first | refine AW.re 0 1 ?_ | refine AW.go ?_ | fail)
 repeat' (first | (refine xS 1 2 ?_; refine AL.makeSlice (n := m) (e := 5) (c := .int .u8 0) (z := .int .u8 0) (bytes := 1) rfl rfl (by kernel_rfl) rfl (by omega) (by omega) rfl fun bk => ?_; refine xN 1 ?_) | refine AW.re 2 1 ?_ | refine AW.go ?_ | fail)
 refine AW.prune [0, 3, 4] (AW.loop (fun mz af h => ∃ (i : Nat), i ≤ m ∧ mz = m - i ∧ af = [(0, .osl ba m m), (3, .osl bk m m), (4, .int .i64 i)] ∧ h = [.row bk ((a.take i).map kav ++ List.replicate (m - i) (.int .u8 0)), .row ba (a.map bav)] ∧ True) m ⟨0, Nat.zero_le _, rfl, rfl, rfl, trivial⟩ ?_)
 rintro mz af h ⟨i, hi, rfl, rfl, rfl, he⟩
 refine AW.seq ?_
 by_cases hlt : i < m
 ·obtain ⟨x, hx⟩ := get_lt (show i < a.length by omega)
  have hx' : (a.map bav)[((i : Nat) : Int).toNat]? = some (bav x) := map_get hx
  have htk : a.take (i + 1) = a.take i ++ [x] := by rw [List.take_add_one, hx]; rfl
  have hl : ((a.take i).map kav).length = i := by rw [lM, List.length_take]; omega
  rw [show m - i = (m - (i + 1)) + 1 by omega, List.replicate_succ]
  have hst : ((i : Nat) : Int).toNat < ((a.take i).map kav ++ AV.int .u8 0 :: List.replicate (m - (i + 1)) (.int .u8 0)).length := by rw [lA, hl, List.length_cons]; omega
  repeat' (first | refine AW.re 3 4 ?_ | (refine xS 5 2 ?_; refine AL.d (AOp.index_osl rfl rfl (by omega) (by omega) (by kernel_rfl)) ?_; refine AL.d (AOp.load_cell 1 rfl rfl hx' rfl (by kernel_rfl)) ?_; refine AL.nil ?_) | refine AW.jj (fun hb => ?_) (fun hb => ?_) | refine AW.go ?_ | fail)
  all_goals try (exfalso; simp only [dT, dF, lM] at *; omega)
  ·obtain rfl : x = true := hb
   repeat' (first | (refine xS 6 2 ?_; refine AL.d (AOp.index_osl rfl rfl (by omega) (by omega) (by kernel_rfl)) ?_; refine AL.store_cell 0 rfl rfl rfl hst rfl rfl (by kernel_rfl) ?_; refine AL.nil ?_) | (refine xS 4 1 ?_; refine AL.d AOp.ad ?_; refine xN 1 ?_) | fail)
   refine AW.again_keep (m - (i + 1)) [0, 3, 4] (by omega) ⟨i + 1, hlt, rfl, rfl, ?_, trivial⟩
   show [Own.row bk (((a.take i).map kav ++ AV.int .u8 0 :: List.replicate (m - (i + 1)) (.int .u8 0)).set ((i : Nat) : Int).toNat (.int .u8 1)), .row ba (a.map bav)] = _
   rw [Int.toNat_natCast, set_mid _ _ _ _ _ hl, htk, List.map_append]
   simp [kav]
  ·obtain rfl : x = false := hb
   repeat' (first | (refine xS 4 1 ?_; refine AL.d AOp.ad ?_; refine xN 1 ?_) | fail)
   refine AW.again_keep (m - (i + 1)) [0, 3, 4] (by omega) ⟨i + 1, hlt, rfl, rfl, ?_, trivial⟩
   rw [htk, List.map_append]
   simp [kav]
 ·rw [show m - i = 0 by omega, List.replicate_zero, List.append_nil, List.take_of_length_le (by omega)]
  have hk : a.map kav = (a.map bit8).map fun q => AV.int .u8 (q.toNat : Int) := by
   rw [List.map_map]; refine List.map_congr_left fun b _ => ?_; cases b <;> rfl
  rw [hk]
  have hl2 : some (AV.osl bk m m) = some (.osl bk (a.map bit8).length m) := by rw [lM, ha]
  repeat' (first | refine AW.re 3 4 ?_ | refine AW.jj (fun hb => ?_) (fun hb => ?_) | refine AW.go ?_ | fail)
  all_goals try (exfalso; simp only [dT, dF, lM] at *; omega)
  repeat' (first | (refine xS 7 1 ?_; refine AL.d (AOp.conv_bytes 0 (l := a.map bit8) (c := m) (e := 5) hl2 rfl (by kernel_rfl) (by kernel_rfl) (by kernel_rfl)) ?_; refine xN 1 ?_) | fail)
  exact AW.ret_drop rfl (by simp) ⟨rfl, rfl⟩
theorem perm_push {α : Type} (nw n w t a b : α) (R N X : List α) : ([w, t] ++ (X ++ nw :: n :: a :: b :: (R ++ N))).Perm (X ++ n :: (w :: t :: a :: b :: (R ++ [nw]) ++ N)) := by
 classical
 rw [List.perm_iff_count]
 intro x
 simp only [List.count_cons, List.count_append, List.count_nil]
 omega
theorem perm_pop {α : Type} (nw n w t a b : α) (R N X : List α) : (X ++ n :: (w :: t :: a :: b :: (R ++ [nw]) ++ N)).Perm (X ++ nw :: n :: (w :: t :: a :: b :: R ++ N)) := by
 classical
 rw [List.perm_iff_count]
 intro x
 simp only [List.count_cons, List.count_append, List.count_nil]
 omega
theorem perm_4b {α : Type} (a b c d : α) (R : List α) : (a :: b :: c :: d :: R).Perm (b :: d :: c :: a :: R) := by
 classical
 rw [List.perm_iff_count]
 intro x
 simp only [List.count_cons]
 omega
theorem perm_2e {α : Type} (a b : α) (R : List α) : (a :: b :: R).Perm (R ++ [a, b]) := List.perm_append_comm (l₁ := [a, b])
def WS.push (s : WS) (o : Option Nat) (c : Nat) (tl : List AV) (t : TE) : WS := { s with to := o, tc := c, tt := tl, ts := s.ts ++ [t] }
theorem WS.push_ok {s : WS} (hs : s.Ok) {o : Option Nat} {c : Nat} {tl : List AV} {t : TE} (h1 : (tcells s.ts).length + 3 + tl.length = c * 3) (h2 : o = none → s.ts.length + 1 = 0 ∧ c = 0) (h3 : s.ts.length + 1 ≤ 10000) : (s.push o c tl t).Ok := by
 obtain ⟨n1, n2, t1, t2, t3, m1, m2, m3, v1, v2, v3, v4⟩ := hs
 refine ⟨n1, n2, ?_, fun h => ?_, ?_, m1, m2, m3, v1, v2, v3, v4⟩
 ·show (s.ts ++ [t]).length * 3 + tl.length = c * 3
  rw [tcells_len] at h1
  rw [lA, List.length_singleton]; omega
 ·show (s.ts ++ [t]).length = 0 ∧ c = 0
  rw [lA, List.length_singleton]; exact h2 h
 ·show (s.ts ++ [t]).length ≤ 10000
  rw [lA, List.length_singleton]; omega
theorem WS.push_box (s : WS) (o : Option Nat) (c : Nat) (tl : List AV) (t : TE) : (s.push o c tl t).box = .st [.int .i64 s.N, .int .i64 s.base, bfV o (s.ts.length + 1) c, bfV s.no s.ns.length s.nc, bfV s.vo s.vs.length s.vc, .bool s.long] := by
 unfold WS.box WS.push
 simp only [lA, List.length_singleton]
theorem wH_push (bw : Nat) (s : WS) (o : Option Nat) (c : Nat) (tl : List AV) (t : TE) : wH bw (s.push o c tl t) = .box bw (.st [.int .i64 s.N, .int .i64 s.base, bfV o (s.ts.length + 1) c, bfV s.no s.ns.length s.nc, bfV s.vo s.vs.length s.vc, .bool s.long]) :: bfO o (tcells s.ts ++ t.cells ++ tl) :: bfO s.no (s.ns.map AV.str ++ s.nt) :: bfO s.vo (s.vs.map iav ++ s.vt) :: (s.ts.map TE.row ++ [t.row]) := by
 unfold wH
 rw [WS.push_box]
 unfold WS.push
 simp only [tcells_app, List.map_append]
 rfl
def WS.pop (s : WS) (ts : List TE) (t : TE) : WS := { s with tt := t.cells ++ s.tt, ts := ts }
theorem WS.pop_ok {s : WS} {ts : List TE} {t : TE} (hs : s.Ok) (h : s.ts = ts ++ [t]) : (s.pop ts t).Ok := by
 obtain ⟨n1, n2, t1, t2, t3, m1, m2, m3, v1, v2, v3, v4⟩ := hs
 have hl : s.ts.length = ts.length + 1 := by rw [h, lA, List.length_singleton]
 refine ⟨n1, n2, ?_, fun e => ?_, ?_, m1, m2, m3, v1, v2, v3, v4⟩
 ·show ts.length * 3 + (t.cells ++ s.tt).length = s.tc * 3
  have : t.cells.length = 3 := rfl
  rw [lA]; omega
 ·have := t2 e; omega
 ·show ts.length ≤ 10000; omega
theorem hH_pop (bw : Nat) {s : WS} {ts : List TE} {t : TE} (h : s.ts = ts ++ [t]) (n : NT) (X : AH) : (X ++ n.bx :: (Own.box bw (.st [.int .i64 s.N, .int .i64 s.base, bfV s.to ts.length s.tc, bfV s.no s.ns.length s.nc, bfV s.vo s.vs.length s.vc, .bool s.long]) :: bfO s.to (tcells s.ts ++ s.tt) :: bfO s.no (s.ns.map AV.str ++ s.nt) :: bfO s.vo (s.vs.map iav ++ s.vt) :: (s.ts.map TE.row) ++ n.rest)).Perm (X ++ t.row :: hH bw (s.pop ts t) n) := by
 have := perm_pop t.row n.bx (Own.box bw (.st [.int .i64 s.N, .int .i64 s.base, bfV s.to ts.length s.tc, bfV s.no s.ns.length s.nc, bfV s.vo s.vs.length s.vc, .bool s.long])) (bfO s.to (tcells s.ts ++ s.tt)) (bfO s.no (s.ns.map AV.str ++ s.nt)) (bfO s.vo (s.vs.map iav ++ s.vt)) (ts.map TE.row) n.rest X
 have e : hH bw (s.pop ts t) n = n.bx :: (Own.box bw (.st [.int .i64 s.N, .int .i64 s.base, bfV s.to ts.length s.tc, bfV s.no s.ns.length s.nc, bfV s.vo s.vs.length s.vc, .bool s.long]) :: bfO s.to (tcells s.ts ++ s.tt) :: bfO s.no (s.ns.map AV.str ++ s.nt) :: bfO s.vo (s.vs.map iav ++ s.vt) :: ts.map TE.row ++ n.rest) := by
  unfold hH wH WS.pop WS.box
  simp only [h, tcells_app, List.append_assoc]
  rfl
 rw [e]
 rw [show s.ts.map TE.row = ts.map TE.row ++ [t.row] by rw [h, List.map_append]; rfl]
 exact this
theorem w_stage (bw : Nat) (K : NT → Prop) (φ : Nat → Bool) (n : NT) (s : WS) (names : List ByteArray) (now : TE) (L : Nat) (hL : L = s.N ^ names.length) (hbl : now.bits.length = L) (hL2 : L ≤ 4096) (hs : s.Ok) (hn : s.ns.length + names.length ≤ 100000) (ht : s.ts.length + 1 ≤ 10000) (hk : K n)
  (H : ∀ i, i < L → ∀ o c tl, HoldsAt bw K (s.push o c tl now) n names (tup s.N names.length i) (φ i)) :
  Tri Tryz.prog 196 [.ref bw 0, strs names, .ref n.b 0, now.av] (now.row :: hH bw s n)
   (fun x h => ∃ s' n' out, x = .ret (TE.av out) ∧ h = out.row :: now.row :: hH bw s' n' ∧ Same s s' ∧ n'.b = n.b ∧ n'.f = n.f ∧ K n' ∧ out.nm = now.nm ∧ out.ar = now.ar ∧ out.bits = (List.range L).map φ) := by
 have hMx : (some (AV.int .i64 (names.map AV.str).length)) = some (.int .i64 (names.length : Nat)) := by rw [lM]
 have hBx : (some (AV.int .i64 now.bits.length)) = some (.int .i64 (L : Nat)) := by rw [hbl]
 have hs0 := hs
 obtain ⟨n1, n2, t1, t2, t3, _⟩ := hs0
 have hcl := tcells_len s.ts
 have hr3 : ∀ y ∈ now.cells, y.size = 1 := by intro y hy; unfold TE.cells at hy; simp only [List.mem_cons, List.not_mem_nil, or_false] at hy; rcases hy with rfl | rfl | rfl <;> rfl
 have hnav : now.av = .st [.str now.nm, .int .i64 now.ar, .osl now.hb now.bits.length now.bits.length] := rfl
 refine Tri.enter 72 Tryz.func196 rfl rfl rfl rfl fun Fr w0 => ?_
 repeat' (first | (refine AW.r 0 ?_; refine AL.d (AOp.box_ro rfl rfl) ?_; refine AL.alloc_z (t := 193) zTb (by kernel_rfl) rfl rfl fun b8 => ?_; refine AL.nil ?_) | fail)
 refine AW.seq ?_
 refine AW.cut (fun af h => ∃ bo bb, af = [(0, .ref bw 0), (1, strs names), (2, .ref n.b 0), (7, .at now.av), (8, .ref b8 0), (9, .ref bb 0)] ∧ h = .box bb (.st [.str now.nm, .int .i64 now.ar, .osl bo L L]) :: .row bo (List.replicate L (.bool false)) :: .box b8 zTb :: now.row :: hH bw s n) ?_ ?_
 ·repeat' (first | fail)
  refine AW.explore [] [7, 8, 9, 10] rfl (by kernel_rfl) (by kernel_rfl) (by kernel_rfl) (by kernel_rfl) ?_
  first | refine AQE.op rfl AOp.fa rfl rfl ?_ | refine AQE.op rfl (AOp.fr 0) rfl rfl ?_
  refine AQE.op rfl (AOp.la) rfl rfl ?_
  first | refine AQE.op rfl AOp.fa rfl rfl ?_ | refine AQE.op rfl (AOp.fr 1) rfl rfl ?_
  refine AQE.op rfl (AOp.la) rfl rfl ?_
  first | refine AQE.op rfl AOp.fa rfl rfl ?_ | refine AQE.op rfl (AOp.fr 2) rfl rfl ?_
  refine AQE.op rfl (AOp.la) rfl rfl ?_
  refine AQE.op rfl (AOp.ln) rfl rfl ?_
  refine AQE.hole rfl rfl ?_
  refine AQE.hole rfl rfl ?_
  refine AQE.hole rfl rfl ?_
  refine AQE.hole rfl rfl ?_
  refine AQE.nil ?_
  repeat' (first | refine AX.two (n := 3) 7 9 rfl ?_ ?_ | refine AX.one (n := 2) 7 rfl ?_ | refine AX.two (n := 2) 8 9 rfl ?_ ?_ | refine AX.one (n := 1) 8 rfl ?_ | refine AX.one (n := 1) 9 rfl ?_ | refine AX.one (n := 0) 10 rfl ?_ | (refine AXS.new (i := 7) rfl rfl rfl (AOp.makeSlice (n := L) (e := 4) (c := .bool false) (z := .bool false) (bytes := 1) hBx hBx (by kernel_rfl) rfl (by omega) (by omega)) (fun bo => ?_); dsimp only [sA, sB, sC, sD]) | (refine AXS.det (i := 8) rfl rfl rfl (AOp.build (pl := [(0, 1), (1, 1), (2, 1)]) (z := zTb) (by kernel_rfl) rfl rfl rfl) ?_; dsimp only [sA, sB, sC, sD]) | (refine AXS.new (i := 9) rfl rfl rfl (AOp.alloc (t := 193) (z := zTb) (by kernel_rfl) rfl) (fun bb => ?_); dsimp only [sA, sB, sC, sD]) | (refine AXS.at (q := 10) rfl rfl ?_; refine AXO.sl 0 (fun _ => ?_); dsimp only [sA, sB, sC, sD]) | (refine AXS.at (q := 10) rfl rfl ?_; refine AXO.sl 1 (fun _ => ?_); dsimp only [sA, sB, sC, sD]) | fail)
  all_goals refine AX.done_keep [0,1,2,7,8,9] ?_
  all_goals first
   | exact AW.meet [0, 1, 2, 7, 8, 9] ⟨bo, bb, rfl, rfl⟩
   | exact AW.perm (.swap _ _ _) (AW.meet [0, 1, 2, 7, 8, 9] ⟨bo, bb, rfl, rfl⟩)
 rintro _ _ ⟨bo, bb, rfl, rfl⟩
 repeat' (first | (refine xS 2 2 ?_; refine AL.d (AOp.fr 2) ?_; refine AL.d (AOp.ll 5) ?_; refine AL.d (AOp.len_val (by kernel_rfl) rfl) ?_; refine xN 1 ?_) | refine AW.go ?_ | fail)
 repeat' (first | fail)
 refine AW.explore [false, false, false, false, false, true, true] [4, 7, 10] rfl (by kernel_rfl) (by kernel_rfl) (by kernel_rfl) (by kernel_rfl) ?_
 refine AQE.ev rfl rfl rfl rfl ?_
 refine AQE.ev rfl rfl rfl rfl ?_
 refine AQE.ev rfl rfl rfl rfl ?_
 first | refine AQE.op rfl AOp.fa rfl rfl ?_ | refine AQE.op rfl (AOp.fr 2) rfl rfl ?_
 refine AQE.hole rfl rfl ?_
 refine AQE.op rfl (AOp.la) rfl rfl ?_
 refine AQE.op rfl (AOp.lit (e := 193) (sz := 3) (by kernel_rfl) rfl rfl rfl (P_one rfl) (by decide)) rfl rfl ?_
 refine AQE.hole rfl rfl ?_
 refine AQE.ev rfl rfl rfl rfl ?_
 first | refine AQE.op rfl AOp.fa rfl rfl ?_ | refine AQE.op rfl (AOp.fr 2) rfl rfl ?_
 refine AQE.hole rfl rfl ?_
 refine AQE.nil ?_
 repeat' (first | refine AX.one (n := 2) 4 rfl ?_ | refine AX.one (n := 1) 7 rfl ?_ | refine AX.one (n := 0) 10 rfl ?_ | (refine AXS.det (i := 4) rfl rfl rfl (AOp.ll 0) ?_; dsimp only [sA, sB, sC, sD]) | (refine AXS.step (i := 7) rfl rfl rfl (AOp.append_bf 1 3 (o := s.to) (n := s.ts.length) (c := s.tc) (us := tcells s.ts) (tl := s.tt) (ys := now.cells) (m := 1) (e := 193) (bytes := 48) rfl rfl (by omega) (by omega) t2 (SrcC.one (fs := now.cells) rfl hr3) rfl hr3 rfl (by omega) (by kernel_rfl) (by kernel_rfl) (by omega) (by omega)) ?_ (by rintro _ _ ⟨_, _, _, e, _⟩; cases e); rintro _ _ ⟨o, c, tl, e, rfl, q1, q2, q3⟩; injection e with e; subst e; dsimp only [sA, sB, sC, sD]) | (refine AXS.at (q := 10) rfl rfl ?_; refine AXO.sl 0 (fun _ => ?_); dsimp only [sA, sB, sC, sD]) | fail)
 all_goals refine AX.done_keep [0,1,2,8,9,10] ?_
 refine AW.perm (perm_push now.row n.bx _ _ (bfO s.no (s.ns.map AV.str ++ s.nt)) (bfO s.vo (s.vs.map iav ++ s.vt)) (s.ts.map TE.row) n.rest [_, _, _]) ?_
 have ok1 := WS.push_ok (t := now) (o := o) (c := c) (tl := tl) hs (by have : now.cells.length = 3 := rfl; omega) q2 ht
 refine AW.frame_eq rfl (show _ = .box bb (.st [.str now.nm, .int .i64 now.ar, .osl bo L L]) :: .row bo (List.replicate L (.bool false)) :: .box b8 zTb :: hH bw (s.push o c tl now) n from by unfold hH; rw [wH_push]; rfl) ?_
 have hH1 : ∀ i, i < L → HoldsAt bw K (s.push o c tl now) n names (tup s.N names.length i) (φ i) := fun i hi => H i hi o c tl
 have hNp : (s.push o c tl now).N = s.N := rfl
 have hnp : (s.push o c tl now).ns = s.ns := rfl
 have hbp : (s.push o c tl now).base = s.base := rfl
 have htp : (s.push o c tl now).ts = s.ts ++ [now] := rfl
 have hvp : (s.push o c tl now).vs = s.vs := rfl
 generalize s.push o c tl now = s1 at *
 repeat' (first | (refine xS 4 2 ?_; refine AL.makeSlice (n := names.length) (e := 3) (c := .int .i64 0) (z := .int .i64 0) (bytes := 8) hMx hMx (by kernel_rfl) rfl (by omega) (by omega) rfl fun bt => ?_; refine xN 1 ?_) | refine AW.re 5 1 ?_ | refine AW.go ?_ | fail)
 refine AW.perm (perm_4b _ _ _ _ _) ?_
 have hL0 : 0 < L := by rw [hL]; exact Nat.pow_pos n1
 refine AW.prune [0, 1, 2, 8, 9, 10, 11, 12] (AW.loop (fun mz af h => ∃ (i : Nat) (s' : WS) (n' : NT), i ≤ L ∧ mz = L - i ∧ af = [(0, .ref bw 0), (1, strs names), (2, .ref n.b 0), (8, .ref b8 0), (9, .ref bb 0), (10, .int .i64 s.ts.length), (11, .osl bt names.length names.length), (12, .int .i64 i)] ∧
  h = .box bb (.st [.str now.nm, .int .i64 now.ar, .osl bo L L]) :: .box b8 zTb :: .row bo (((List.range i).map φ ++ List.replicate (L - i) false).map bav) :: .row bt ((tup s.N names.length (i % L)).map iav) :: hH bw s' n' ∧ Same s1 s' ∧ n'.b = n.b ∧ n'.f = n.f ∧ K n') L ⟨0, s1, n, Nat.zero_le _, rfl, rfl, by rw [Nat.zero_mod, tup_zero, List.map_replicate]; simp only [List.range_zero, List.map_nil, List.nil_append, List.map_replicate, Nat.sub_zero]; rfl, Same.refl ok1, rfl, rfl, hk⟩ ?_)
 rintro mz af h ⟨i, s2, n2, hi, rfl, rfl, rfl, sm, nb, nf, hk1⟩
 refine AW.seq ?_
 by_cases hlt : i < L
 ·have him : i % L = i := Nat.mod_eq_of_lt hlt
  rw [him]
  have htl := tup_len s.N names.length i
  have hol : ((List.range i).map φ).length = i := by simp
  have hW := w_With_own bw K (φ i) n2 s2 names (tup s.N names.length i) bt names.length [] sm.ok htl (by rw [sm.ns, hnp]; exact hn) (fun x hx => by rw [sm.N, hNp]; exact tup_mem (by omega) _ _ x hx)
   (fun s' h1 h2 h3 h4 h5 h6 => hH1 i hlt s' n2 h1 (h2.trans sm.N) (h3.trans sm.base) (h4.trans sm.ts) (by rw [h5, sm.ns]) (by rw [h6, sm.vs]) nb nf hk1)
  rw [htl, List.append_nil, nb] at hW
  have hc := Tri.ahead hW [.row bo (((List.range i).map φ ++ List.replicate (L - i) false).map bav)]
  have hrow : ((List.range i).map φ ++ List.replicate (L - i) false).map bav = ((List.range i).map φ).map bav ++ bav false :: List.replicate (L - (i + 1)) (bav false) := by
   rw [show L - i = (L - (i + 1)) + 1 by omega, List.replicate_succ]; simp
  rw [hrow] at hc ⊢
  have hl2 : (((List.range i).map φ).map bav).length = i := by simp
  have hsl : ((i : Nat) : Int).toNat < (((List.range i).map φ).map bav ++ bav false :: List.replicate (L - (i + 1)) (bav false)).length := by rw [lA, hl2, List.length_cons]; omega
  repeat' (first | (refine xS 6 1 ?_; refine AL.d (AOp.fr 2) ?_; refine AL.d (AOp.ll 0) ?_; refine xN 2 ?_) | refine AW.jj (fun hb => ?_) (fun hb => ?_) | refine AW.go ?_ | fail)
  all_goals try (exfalso; simp only [dT, dF, lM] at *; omega)
  refine AW.perm (perm_2e _ _ _) ?_
  repeat' (first | fail)
  refine AW.exploreA [7, 9] rfl (by kernel_rfl) (by kernel_rfl) (by kernel_rfl) (by kernel_rfl) ?_
  first | refine AQE.op rfl AOp.fa rfl rfl ?_ | refine AQE.op rfl (AOp.fr 2) rfl rfl ?_
  refine AQE.op rfl (AOp.ll 0) rfl rfl ?_
  refine AQE.ev rfl rfl rfl rfl ?_
  refine AQE.ev rfl rfl rfl rfl ?_
  refine AQE.ev rfl rfl rfl rfl ?_
  refine AQE.ev rfl rfl rfl rfl ?_
  refine AQE.ev rfl rfl rfl rfl ?_
  refine AQE.hole rfl rfl ?_
  refine AQE.op rfl (AOp.index_osl rfl rfl (by omega) (by omega) (by kernel_rfl)) rfl rfl ?_
  refine AQE.hole rfl rfl ?_
  refine AQE.nil ?_
  repeat' (first | refine AX.one (n := 1) 7 rfl ?_ | refine AX.one (n := 0) 9 rfl ?_ | (refine AXS.at (q := 7) rfl rfl ?_; refine AXO.callQ rfl rfl hc rfl ?_ ?_; rotate_left; rintro _ _ ⟨_, ⟨e, _⟩, _⟩; cases e; rintro _ _ ⟨_, ⟨e, s3, n3, rfl, sm3, nb3, nf3, hk3⟩, rfl⟩; injection e with e; subst e; dsimp only [sA, sB, sC, sD]) | (refine AXS.at (q := 9) rfl rfl ?_; refine AXO.store_cell 0 rfl rfl rfl hsl rfl rfl (by kernel_rfl) (fun _ => ?_); dsimp only [sA, sB, sC, sD]) | fail)
  all_goals refine AX.done_keep [0,1,2,8,9,10,11,12] ?_
  have hset : (((List.range i).map φ).map bav ++ bav false :: List.replicate (L - (i + 1)) (bav false)).set ((i : Nat) : Int).toNat (.bool (φ i)) = ((List.range (i + 1)).map φ ++ List.replicate (L - (i + 1)) false).map bav := by
   rw [Int.toNat_natCast, set_mid _ _ _ _ _ hl2, List.range_succ]; simp [bav]
  refine AW.frame_eq rfl (show _ = (.row bo ((((List.range i).map φ).map bav ++ bav false :: List.replicate (L - (i + 1)) (bav false)).set ((i : Nat) : Int).toNat (.bool (φ i))) :: .row bt ((tup s.N names.length i).map iav) :: hH bw s3 n3) ++ [.box bb (.st [.str now.nm, .int .i64 now.ar, .osl bo L L]), .box b8 zTb] from rfl) ?_
  refine AW.perm (perm_2e _ _ _).symm ?_
  rw [hset]
  have hN3 : s3.N = s.N := by rw [sm3.N, sm.N, hNp]
  have hX : Tri Tryz.prog 193 [.osl bt names.length names.length, .int .i64 s3.N] ([.box bb (.st [.str now.nm, .int .i64 now.ar, .osl bo L L]), .box b8 zTb, .row bo (((List.range (i + 1)).map φ ++ List.replicate (L - (i + 1)) false).map bav)] ++ ([.row bt ((tup s.N names.length i).map iav)] ++ hH bw s3 n3)) (D (.bool (decide (i + 1 < L))) ([.box bb (.st [.str now.nm, .int .i64 now.ar, .osl bo L L]), .box b8 zTb, .row bo (((List.range (i + 1)).map φ ++ List.replicate (L - (i + 1)) false).map bav)] ++ ([.row bt ((tup s.N names.length ((i + 1) % L)).map iav)] ++ hH bw s3 n3))) := by
   have := (tup_next bt s.N names.length i ⟨hs.n1, hs.n2⟩ (by omega) (by rw [← hL]; exact hlt)).aroundD [.box bb (.st [.str now.nm, .int .i64 now.ar, .osl bo L L]), .box b8 zTb, .row bo (((List.range (i + 1)).map φ ++ List.replicate (L - (i + 1)) false).map bav)] (hH bw s3 n3)
   rw [← hL] at this
   rw [hN3]; exact this
  repeat' (first | (refine xS 9 3 ?_; refine AL.d (AOp.fr 0) ?_; refine AL.d (AOp.ll 5) ?_; refine AL.d (AOp.call rfl rfl hX) ?_; refine AL.nil ?_) | (refine xS 7 1 ?_; refine AL.d AOp.ad ?_; refine xN 1 ?_) | fail)
  exact AW.again_keep (L - (i + 1)) [0, 1, 2, 8, 9, 10, 11, 12] (by omega) ⟨i + 1, s3, n3, hlt, rfl, rfl, rfl, sm.trans sm3, nb3.trans nb, nf3.trans nf, hk3⟩
 ·obtain rfl : i = L := by omega
  rw [Nat.sub_self, List.replicate_zero, List.append_nil]
  have hts : s2.ts = s.ts ++ [now] := by rw [sm.ts, htp]
  have hc2 : s.ts.length ≤ s2.tc := by
   have := sm.ok.t1; rw [hts, lA, List.length_singleton] at this; omega
  repeat' (first | (refine xS 6 1 ?_; refine AL.d (AOp.fr 2) ?_; refine AL.d (AOp.ll 0) ?_; refine xN 2 ?_) | refine AW.jj (fun hb => ?_) (fun hb => ?_) | refine AW.go ?_ | fail)
  all_goals try (exfalso; simp only [dT, dF, lM] at *; omega)
  repeat' (first | (refine xS 10 3 ?_; refine AL.d (AOp.fr 2) ?_; refine AL.d (AOp.ll 5) ?_; refine AL.es 1 ?_; refine AL.d (AOp.cut_bf (sz := 3) (k := s.ts.length) (by kernel_rfl) rfl (bndIs.some rfl rfl) hc2) ?_; refine AL.es 1 ?_; refine AL.d (AOp.fr 2) ?_; refine AL.sl 5 ?_; refine AL.nil ?_) | refine AW.go ?_ | fail)
  refine AW.perm (hH_pop bw hts n2 [_, _, _, _]) ?_
  repeat' (first | (refine AW.r 11 ?_; refine AL.d (AOp.lw 0) ?_; refine AL.sl 1 ?_; refine AL.nil ?_) | fail)
  refine AW.retc (vs := [.st [.str now.nm, .int .i64 now.ar, .osl bo i i]]) (.cell 1 rfl rfl (by kernel_rfl) .nil) (ah' := .row bo (((List.range i).map φ).map bav) :: now.row :: hH bw (s2.pop s.ts now) n2) (.cons _ (.cons _ (.cons_cons _ (.cons _ (List.Sublist.refl _))))) ⟨s2.pop s.ts now, n2, ⟨now.nm, now.ar, bo, (List.range i).map φ⟩, ?_, rfl, ?_, nb, nf, hk1, rfl, rfl, rfl⟩
  ·show _ = AEnd.ret (AV.st [.str now.nm, .int .i64 now.ar, .osl bo ((List.range i).map φ).length ((List.range i).map φ).length])
   rw [lM, List.length_range]; rfl
  ·exact ⟨sm.N.trans hNp, sm.base.trans hbp, rfl, sm.ns.trans hnp, sm.vs.trans hvp, WS.pop_ok sm.ok hts⟩
def ordG : List GSym → List ByteArray → List ByteArray
 | [], o => o
 | a :: l, o => ordG l (risP o a.Name)
theorem ordG_len : ∀ (l : List GSym) (o : List ByteArray), (ordG l o).length ≤ o.length + l.length
 | [], o => by simp [ordG]
 | a :: l, o => by
  have h1 := ordG_len l (risP o a.Name)
  have h2 := risP_len o a.Name
  rw [ordG, List.length_cons]; omega
theorem ordG_mem : ∀ (l : List GSym) (o : List ByteArray) (x : ByteArray), x ∈ ordG l o ↔ x ∈ o ∨ ∃ a ∈ l, a.Name = x
 | [], o, x => by simp [ordG]
 | a :: l, o, x => by
  rw [ordG, ordG_mem l, risP_mem]
  constructor
  ·rintro ((rfl | h) | ⟨b, hb, h⟩)
   ·exact .inr ⟨a, by simp, rfl⟩
   ·exact .inl h
   ·exact .inr ⟨b, by simp [hb], h⟩
  ·rintro (h | ⟨b, hb, h⟩)
   ·exact .inl (.inr h)
   ·rcases List.mem_cons.1 hb with rfl | hb
    ·exact .inl (.inl h.symm)
    ·exact .inr ⟨b, hb, h⟩
def fsym (l : List GSym) (nm : ByteArray) : List GSym := (l.find? fun y => decide (y.Name = nm)).toList
def symL (l : List GSym) : List GSym := (ordG l []).flatMap (fsym l)
theorem fsym_len (l : List GSym) (nm : ByteArray) : (fsym l nm).length ≤ 1 := by
 unfold fsym; cases l.find? _ <;> simp
theorem symL_len (l : List GSym) : (symL l).length ≤ l.length := by
 have h := ordG_len l []
 have key : ∀ o : List ByteArray, (o.flatMap (fsym l)).length ≤ o.length := by
  intro o
  induction o with
  | nil => simp
  | cons a o ih => have := fsym_len l a; rw [List.flatMap_cons, lA, List.length_cons]; omega
 have := key (ordG l [])
 unfold symL; simp at h; omega
theorem symL_sub {l : List GSym} {x : GSym} (h : x ∈ symL l) : x ∈ l := by
 obtain ⟨nm, _, hx⟩ := List.mem_flatMap.1 h
 unfold fsym at hx
 rw [Option.mem_toList] at hx
 exact List.mem_of_find?_eq_some hx
theorem symL_name {l : List GSym} {x : GSym} (h : x ∈ l) : ∃ y ∈ symL l, y.Name = x.Name := by
 have hm : x.Name ∈ ordG l [] := (ordG_mem l [] x.Name).2 (.inr ⟨x, h, rfl⟩)
 cases hf : l.find? fun y => decide (y.Name = x.Name) with
 | none => have := List.find?_eq_none.1 hf x h; simp at this
 | some y =>
  refine ⟨y, List.mem_flatMap.2 ⟨x.Name, hm, ?_⟩, ?_⟩
  ·unfold fsym; rw [hf]; simp
  ·have := List.find?_some hf; simpa using this
theorem ref_Symbols (f : GFml) (ho : f.Ok) (hn : ndF f ≤ 900000) : Tri Tryz.prog 36 [f.st] [] (D (.sl ((symL (ocF f [] [])).map GSym.av)) []) := by
 have hO := ref_occ _ f [] [] none 0 (Nat.le_refl _) ho (by simp; omega) (by simp; omega)
 have hOl : (ocF f [] []).length ≤ 900000 := by have := ocF_len f [] []; simp at this; omega
 generalize ocF f [] [] = T at *
 have hol := ordG_len T []
 unfold symL
 generalize hOO : ordG T [] = O at *
 simp only [List.length_nil, Nat.zero_add] at hol
 obtain ⟨k, ar, nm, vars, args, kids⟩ := f
 refine Tri.enter 54 Tryz.func36 rfl rfl rfl rfl fun Fr w0 => ?_
 repeat' (first | (refine AW.r 0 ?_; (refine AL.d (AOp.box_ro (v := .st [.int .i64 k, .int .i64 ar, .str nm, strs vars, strs args, .sl (kids.map GFml.av)]) rfl rfl) ?_) <;> refine AL.es 1 ?_ <;> refine AL.nil ?_) | refine AW.go ?_ | fail)
 refine AW.own_nil 2 ?_
 repeat' (first | fail)
 refine AW.region_at 1 ?_
 refine AL.es 1 ?_
 refine AL.step rfl rfl (AOp.callV (args := [.st [.int .i64 k, .int .i64 ar, .str nm, strs vars, strs args, .sl (kids.map GFml.av)], strs [], .slt [] none 0]) rfl (fun S w a hfr => ?_) hO) ?_ (by rintro _ _ ⟨_, _, e, _⟩; cases e)
 ·have h1 := aeval_rel hfr (x := .tmp 9) rfl
  have h2 := rel_nil (S := S) (w := w)
  simp only [RelVs]
  exact ⟨_, _, rfl, h1.1, h1.2, _, _, rfl, slt_sl _ _ _ h2.1, (fun cs e => by cases e), _, _, rfl, h2.1, h2.2, rfl⟩
 rintro _ _ ⟨tb, tc, e, rfl⟩
 injection e with e
 subst e
 refine AL.es 1 ?_
 refine AL.nil ?_
 refine AW.as_sl 3 rfl ?_
 refine AW.drop (List.nil_sublist _) ?_
 repeat' (first | refine AW.re 2 1 ?_ | refine AW.re 3 1 ?_ | refine AW.go ?_ | fail)
 refine AW.prune [3, 4, 5] (AW.loop (fun mz af h => ∃ (i : Nat) (o : List ByteArray), i ≤ T.length ∧ mz = T.length - i ∧ af = [(3, .sl (T.map GSym.av)), (4, strs o), (5, .int .i64 i)] ∧ h = [] ∧ (O = ordG (T.drop i) o ∧ o.length ≤ i)) T.length ⟨0, [], Nat.zero_le _, rfl, rfl, rfl, ⟨hOO.symm, Nat.le_refl _⟩⟩ ?_)
 rintro mz af h ⟨i, o, hi, rfl, rfl, rfl, he⟩
 refine AW.seq ?_
 by_cases hlt : i < T.length
 all_goals obtain ⟨he, hoi⟩ := he
 ·obtain ⟨x, hx⟩ := get_lt hlt
  have hx' : (T.map GSym.av)[((i : Nat) : Int).toNat]? = some x.av := map_get hx
  have hR := ref_sorted o x.Name (by omega)
  have hrl := risP_len o x.Name
  rw [drop_cons hx, ordG] at he
  repeat' (first | refine AW.re 4 4 ?_ | (refine xS 6 3 ?_; refine AL.d (iX hx') ?_; refine AL.es 2 ?_; refine AL.d (AOp.call rfl rfl hR) ?_; refine xN 1 ?_) | (refine xS 5 1 ?_; refine AL.d AOp.ad ?_; refine xN 1 ?_) | refine AW.jj (fun hb => ?_) (fun hb => ?_) | refine AW.go ?_ | fail)
  all_goals try (exfalso; simp only [dT, dF, lM] at *; omega)
  exact AW.again_keep (T.length - (i + 1)) [3, 4, 5] (by omega) ⟨i + 1, _, hlt, rfl, rfl, rfl, he, by omega⟩
 ·rw [List.drop_eq_nil_of_le (by omega), ordG] at he
  subst he
  repeat' (first | refine AW.re 4 4 ?_ | refine AW.jj (fun hb => ?_) (fun hb => ?_) | refine AW.go ?_ | fail)
  all_goals try (exfalso; simp only [dT, dF, lM] at *; omega)
  refine AW.own_nil 2 ?_
  repeat' (first | (refine AW.r 7 ?_; refine AL.d AOp.assign_nil ?_; refine AL.nil ?_) | (refine AW.r 8 ?_; refine AL.e ?_; refine AL.nil ?_) | refine AW.go ?_ | fail)
  refine AW.prune [3, 4, 6, 7] (AW.loop (fun mz af h => ∃ (i : Nat) (out : List GSym) (tb : Option Nat) (tc : Nat), i ≤ O.length ∧ mz = O.length - i ∧ af = [(3, .sl (T.map GSym.av)), (4, strs O), (6, .slt (out.map GSym.av) tb tc), (7, .int .i64 i)] ∧ h = [.tail tb (out.map GSym.av).length tc 2] ∧ (out = (O.take i).flatMap (fsym T) ∧ out.length ≤ i)) O.length ⟨0, [], none, 0, Nat.zero_le _, rfl, rfl, rfl, ⟨rfl, Nat.le_refl _⟩⟩ ?_)
  rintro mz af h ⟨i, out, tb, tc, hi, rfl, rfl, rfl, he⟩
  refine AW.seq ?_
  by_cases hlt : i < O.length
  all_goals obtain ⟨he, hlo⟩ := he
  ·obtain ⟨x, hx⟩ := get_lt hlt
   have hx' : (O.map AV.str)[((i : Nat) : Int).toNat]? = some (.str x) := map_get hx
   have htk : O.take (i + 1) = O.take i ++ [x] := by rw [List.take_add_one, hx]; rfl
   have hft : (O.take (i + 1)).flatMap (fsym T) = out ++ fsym T x := by rw [htk, List.flatMap_append, he]; simp
   have hlt0 := hlt
   obtain ⟨I0, hI0⟩ : ∃ j : Nat, j = i := ⟨i, rfl⟩
   subst hI0
   repeat' (first | refine AW.re 9 4 ?_ | refine AW.re 11 1 ?_ | refine AW.jj (fun hb => ?_) (fun hb => ?_) | refine AW.go ?_ | fail)
   all_goals try (exfalso; simp only [dT, dF, lM] at *; omega)
   refine AW.prune [3, 4, 6, 7, 8] (AW.loop (fun mz af h => ∃ (i : Nat), i ≤ T.length ∧ mz = T.length - i ∧ af = [(3, .sl (T.map GSym.av)), (4, strs O), (6, .slt (out.map GSym.av) tb tc), (7, .int .i64 I0), (8, .int .i64 i)] ∧ h = [.tail tb (out.map GSym.av).length tc 2] ∧ (fsym T x = fsym (T.drop i) x)) T.length ⟨0, Nat.zero_le _, rfl, rfl, rfl, rfl⟩ ?_)
   rintro mz af h ⟨i, hi, rfl, rfl, rfl, he⟩
   refine AW.seq ?_
   by_cases hlt : i < T.length
   ·obtain ⟨y, hy⟩ := get_lt (show i < T.length by omega)
    have hyp : (T.map GSym.av)[((i : Nat) : Int).toNat]? = some (.st [.str y.Name, .int .i64 y.Arity]) := map_get hy
    rw [drop_cons hy] at he
    repeat' (first | refine AW.re 12 4 ?_ | (refine AW.dq 14 ?_; refine AQ.es 2 ?_; refine AQ.p rfl (iX hyp) ?_; refine AQ.es 4 ?_; refine AQ.p rfl (iX hx') ?_; refine AQ.es 2 ?_; refine AQ.nil ?_) | refine AW.jj (fun hb => ?_) (fun hb => ?_) | refine AW.go ?_ | fail)
    all_goals try (exfalso; simp only [dT, dF, lM] at *; omega)
    all_goals rw [toList_beq] at hb
    ·have hf : fsym T x = [y] := by rw [he]; unfold fsym; rw [List.find?_cons_of_pos (by simpa using hb)]; rfl
     repeat' (first | (refine xS 15 3 ?_; refine AL.d (iX hyp) ?_; refine AL.es 1 ?_; refine AL.d (AOp.lit (e := 64) (sz := 2) (by kernel_rfl) rfl rfl rfl (P_one rfl) (by decide)) ?_; refine AL.append (i := 0) (e := 64) (sz := 2) (bytes := 24) rfl rfl rfl rfl (by kernel_rfl) (by kernel_rfl) (by repeat' (exact P_map fun _ => rfl)) (by repeat' (exact P_one rfl)) (ok_all (by repeat' (exact P_one rfl))) (by (try simp only [lA, lM, List.length_take, List.length_drop, List.length_cons, List.length_nil, List.length_replicate]); omega) (by (try simp only [lA, lM, List.length_take, List.length_drop, List.length_cons, List.length_nil, List.length_replicate]); omega) rfl fun b' c' => ?_ <;> refine AL.es 1 ?_ <;> refine AL.nil ?_) | (refine xS 10 1 ?_; refine AL.d AOp.ad ?_; refine xN 1 ?_) | fail)
     have hmm : (out ++ [y]).map GSym.av = out.map GSym.av ++ [AV.st [.str y.Name, .int .i64 y.Arity]] := by simp [GSym.av]
     refine AW.again_keep (O.length - (I0 + 1)) [3, 4, 6, 7] (by omega) ⟨I0 + 1, out ++ [y], b', c', hlt0, rfl, ?_, ?_, ?_, by simp; omega⟩
     ·rw [hmm]; rfl
     ·rw [hmm]; rfl
     ·rw [hft, hf]
    ·have hf : fsym (y :: T.drop (i + 1)) x = fsym (T.drop (i + 1)) x := by unfold fsym; rw [List.find?_cons_of_neg (by simpa using hb)]
     repeat' (first | (refine xS 13 1 ?_; refine AL.d AOp.ad ?_; refine xN 1 ?_) | fail)
     exact AW.again_keep (T.length - (i + 1)) [3, 4, 6, 7, 8] (by omega) ⟨i + 1, hlt, rfl, rfl, rfl, he.trans hf⟩
   ·rw [List.drop_eq_nil_of_le (by omega)] at he
    repeat' (first | refine AW.re 12 4 ?_ | (refine xS 10 1 ?_; refine AL.d AOp.ad ?_; refine xN 1 ?_) | refine AW.jj (fun hb => ?_) (fun hb => ?_) | refine AW.go ?_ | fail)
    all_goals try (exfalso; simp only [dT, dF, lM] at *; omega)
    exact AW.again_keep (O.length - (I0 + 1)) [3, 4, 6, 7] (by omega) ⟨I0 + 1, out, tb, tc, hlt0, rfl, rfl, rfl, by rw [hft, he]; simp [fsym], by omega⟩
  ·rw [List.take_of_length_le (by omega)] at he
   subst he
   repeat' (first | refine AW.re 9 4 ?_ | refine AW.jj (fun hb => ?_) (fun hb => ?_) | refine AW.go ?_ | fail)
   all_goals try (exfalso; simp only [dT, dF, lM] at *; omega)
   refine AW.as_sl 6 rfl ?_
   repeat' (first | refine AW.re 16 2 ?_ | fail)
   exact AW.ret_drop rfl (List.nil_sublist _) ⟨rfl, rfl⟩
theorem lkT_none {α : Type} {s : ByteArray} : ∀ {T : List (ByteArray × α)}, lkT T s = none ↔ ∀ p ∈ T, p.1 ≠ s
  | [] => by simp [lkT]
  | p :: T => by
    rw [lkT]
    have ih := lkT_none (α := α) (s := s) (T := T)
    cases h : lkT T s with
    | some x => rw [h] at ih; simp only [List.mem_cons]; constructor
                · intro e; cases e
                · intro e; exact absurd (ih.2 fun q hq => e q (.inr hq)) (by simp)
    | none =>
      have ih := ih.1 h
      by_cases e : p.1 = s
      · simp [e]
      · simp only [e, if_false, true_iff, List.mem_cons]
        rintro q (rfl | hq)
        · exact e
        · exact ih q hq
def NT.setm (n : NT) (m : Mm) : NT := .mk n.b n.f m n.kids
def Mm.nms : Mm → List ByteArray | .m0 => [] | .m1 _ l => l | .m2 _ l _ _ => l
theorem nbox_kn2 {m : Mm} (h : m.kn = true) (f : GFml) (kb : List Nat) : nbox f kb m = .st [f.st, .sl (kb.map fun b => .ref b 0), .bool true, .bool m.fr, .bool m.dn, .bool m.nn, strs m.nms, m.tab] := by
  cases m with
  | m0 => cases h
  | m1 fr l => rfl
  | m2 fr l nn t => rfl
theorem hH_mk (bw : Nat) (s : WS) (b : Nat) (f : GFml) (m : Mm) (kids : List NT) : hH bw s (.mk b f m kids) = .box b (nbox f (kids.map NT.b) m) :: (wH bw s ++ (m.own ++ nownL kids)) := rfl
theorem hH_kn {m : Mm} (h : m.kn = true) (bw : Nat) (s : WS) (b : Nat) (f : GFml) (kids : List NT) : hH bw s (.mk b f m kids) = .box b (.st [f.st, .sl ((kids.map NT.b).map fun b => .ref b 0), .bool true, .bool m.fr, .bool m.dn, .bool m.nn, strs m.nms, m.tab]) :: (wH bw s ++ (m.own ++ nownL kids)) := by
  rw [hH_mk, nbox_kn2 h]
theorem mOk_alone {N M : Nat} {T0 : TT} {f : GFml} {m : Mm} (hk : m.kn = true) (h : mOk N M T0 f m) : aloneOk f m.fr m.nms := by
  cases m with
  | m0 => cases hk
  | m1 fr l => exact h
  | m2 fr l nn t => exact h.1
theorem alone_new {f x : GFml} (hkids : f.Kids = [x]) (hn : ndF x ≤ 100000) : aloneOk f ((frF x).all fun v => has f.Vars v) (((symL (ocF x [] [])).filter fun y => !decide (y.Name = f.Name)).map GSym.Name) := by
  refine ⟨fun h s hs => ?_, fun s hs => ?_, ?_⟩
  · rw [hkids, fvBL, fvBL, Bool.or_false] at hs
    exact has_mem.1 (List.all_eq_true.1 h s ((frF_fv x s).2 hs))
  · rw [hkids, ocsL, ocsL, Bool.or_false] at hs
    obtain ⟨y, hy, e⟩ := ocs_oc s x [] [] hs (by simp)
    obtain ⟨z, hz, e2⟩ := symL_name hy
    by_cases e3 : s = f.Name
    · exact .inl e3
    · refine .inr (List.mem_map.2 ⟨z, List.mem_filter.2 ⟨hz, ?_⟩, e2.trans e⟩)
      rw [e2, e]; simp [e3]
  · have h1 := symL_len (ocF x [] [])
    have h2 := ocF_len x [] []
    have h3 := List.length_filter_le (fun y : GSym => !decide (y.Name = f.Name)) (symL (ocF x [] []))
    rw [lM]; simp at h2; omega
theorem w_alone (bw N M : Nat) (T0 : TT) (n : NT) (s : WS) (x : GFml) (hs : s.Ok) (hb : s.base ≤ s.ts.length) (hkids : n.f.Kids = [x]) (hx : x.Ok) (hnd : ndF x ≤ 40000) (hsh : shsF x = true) (hv : n.f.Vars.length ≤ 100000) (hK : mOk N M T0 n.f n.m) :
    Tri Tryz.prog 194 [.ref bw 0, .ref n.b 0] (hH bw s n)
      (fun r h => ∃ (b : Bool) (m' : Mm), r = .ret (.bool b) ∧ h = hH bw s (n.setm m') ∧ mOk N M T0 n.f m' ∧ m'.kn = true ∧ (n.m.kn = true → m' = n.m) ∧ (n.m.kn = false → m'.dn = false) ∧ (b = true → m'.fr = true ∧ Alone s.T s.base n.f)) := by
  have hF := ref_Free _ x (Nat.le_refl _) hx (by have := agF_len x hsh; omega)
  have hS := ref_Symbols x hx (by omega)
  have hfl : (frF x).length ≤ 1000000 := by have h1 := frF_len x; have h2 := agF_len x hsh; omega
  have hsl : (symL (ocF x [] [])).length ≤ 40000 := by have h1 := symL_len (ocF x [] []); have h2 := ocF_len x [] []; simp at h2; omega
  have hnew := alone_new hkids (by omega)
  obtain ⟨FF, hFF⟩ : ∃ F, F = frF x := ⟨_, rfl⟩
  obtain ⟨SS, hSS⟩ : ∃ F, F = symL (ocF x [] []) := ⟨_, rfl⟩
  rw [← hFF] at hF hfl hnew
  rw [← hSS] at hS hsl hnew
  have hA := fun v => Among_has n.f.Vars (by omega) v
  obtain ⟨b, f, m, kids⟩ := n
  obtain ⟨k, ar, nm, vars, args, fk⟩ := f
  simp only [NT.f, NT.m, NT.b] at *
  subst hkids
  obtain ⟨kb, hkb⟩ : ∃ kb, kb = (kids.map NT.b).map fun b => AV.ref b 0 := ⟨_, rfl⟩
  have hx0 : ([x].map GFml.av)[((0 : Nat) : Int).toNat]? = some x.st := by rw [← GFml.av_eq]; rfl
  have hx0' : ([x].map GFml.av)[(0 : Int).toNat]? = some x.st := hx0
  refine Tri.enter 123 Tryz.func194 rfl rfl rfl rfl fun Fr w0 => ?_
  repeat' (first | refine AW.re 0 1 ?_ | fail)
  refine AW.seq ?_
  refine AW.cut (fun af h => ∃ m', af = [(0, .ref bw 0), (1, .ref b 0)] ∧ h = hH bw s (.mk b ⟨k, ar, nm, vars, args, [x]⟩ m' kids) ∧ mOk N M T0 ⟨k, ar, nm, vars, args, [x]⟩ m' ∧ m'.kn = true ∧ (m.kn = true → m' = m) ∧ (m.kn = false → m'.dn = false)) ?_ ?_
  · cases hm : m.kn with
    | true =>
      refine AW.frame_eq rfl (show _ = .box b (.st [.st [.int .i64 k, .int .i64 ar, .str nm, strs vars, strs args, .sl ([x].map GFml.av)], .sl kb, .bool true, .bool m.fr, .bool m.dn, .bool m.nn, strs m.nms, m.tab]) :: (wH bw s ++ (m.own ++ nownL kids)) from by rw [hkb, hH_kn hm]; rfl) ?_
      repeat' (first | (refine xS 1 2 ?_; refine AL.d (AOp.fr 7) ?_; refine AL.d (AOp.ll 0) ?_; refine xN 1 ?_) | refine AW.jf ?_ | refine AW.go ?_ | fail)
      refine AW.meet [0, 1] ⟨m, rfl, ?_, hK, hm, fun _ => rfl, fun h => by cases h⟩
      rw [hkb, hH_kn hm]; rfl
    | false =>
      obtain rfl : m = .m0 := by cases m <;> first | rfl | cases hm
      refine AW.frame_eq rfl (show _ = .box b (.st [.st [.int .i64 k, .int .i64 ar, .str nm, strs vars, strs args, .sl ([x].map GFml.av)], .sl kb, .bool false, .bool false, .bool false, .bool false, .slt [] none 0, zTab]) :: (wH bw s ++ nownL kids) from by rw [hkb]; rfl) ?_
      repeat' (first | (refine xS 1 2 ?_; refine AL.d (AOp.fr 7) ?_; refine AL.d (AOp.ll 0) ?_; refine xN 1 ?_) | (refine xS 2 3 ?_; refine AL.d (AOp.fr 7) ?_; refine AL.sl 0 ?_; refine AL.es 1 ?_; refine AL.d (AOp.fr 8) ?_; refine AL.sl 0 ?_; refine AL.nil ?_) | (refine xS 3 2 ?_; refine AL.d (AOp.fr 0) ?_; refine AL.d (AOp.fr 5) ?_; refine AL.d (AOp.ll 0) ?_; refine AL.d (iX hx0') ?_; refine AL.d AOp.la ?_; refine AL.d (AOp.call rfl rfl (hF.pure _)) ?_; refine xN 1 ?_) | refine AW.re 4 1 ?_ | refine AW.jt ?_ | refine AW.go ?_ | fail)
      refine AW.prune [0, 1, 5, 6] (AW.loop (fun mz af h => ∃ (i : Nat), i ≤ FF.length ∧ mz = FF.length - i ∧ af = [(0, .ref bw 0), (1, .ref b 0), (5, strs FF), (6, .int .i64 i)] ∧ h = .box b (.st [.st [.int .i64 k, .int .i64 ar, .str nm, strs vars, strs args, .sl ([x].map GFml.av)], .sl kb, .bool true, .bool ((FF.take i).all fun v => has vars v), .bool false, .bool false, .slt [] none 0, zTab]) :: (wH bw s ++ nownL kids) ∧ True) FF.length ⟨0, Nat.zero_le _, rfl, rfl, rfl, trivial⟩ ?_)
      rintro mz af h ⟨i, hi, rfl, rfl, rfl, he⟩
      refine AW.seq ?_
      by_cases hlt : i < FF.length
      · obtain ⟨v, hv⟩ := get_lt hlt
        have hv' : (FF.map AV.str)[((i : Nat) : Int).toNat]? = some (.str v) := map_get hv
        have hAv := hA v
        have hall : ((FF.take (i + 1)).all fun v => has vars v) = (((FF.take i).all fun v => has vars v) && has vars v) := by
          rw [List.take_add_one, hv, List.all_append]; simp
        generalize ((FF.take i).all fun v => has vars v) = B at hall ⊢
        cases B <;>
        · repeat' (first | refine AW.re 5 4 ?_ | (refine AW.dl 7 19 ?_; refine AQ.es 3 ?_; refine AQ.p rfl (AOp.fr 8) ?_; refine AQ.p rfl (AOp.ll 0) ?_; refine AQ.es 1 ?_; refine AQ.es 2 ?_; (first | refine AQ.gp rfl (AOp.fr 0) ?_ | refine AQ.k ?_) <;> (first | refine AQ.gp rfl (AOp.fr 3) ?_ | refine AQ.k ?_) <;> (first | refine AQ.gp rfl (AOp.ll 0) ?_ | refine AQ.k ?_) <;> refine AQ.es 2 ?_ <;> (first | refine AQ.gp rfl (iX hv') ?_ | refine AQ.k ?_) <;> (first | refine AQ.gp rfl AOp.la ?_ | refine AQ.k ?_) <;> (first | refine AQ.gp rfl (AOp.call rfl rfl (hAv.pure _)) ?_ | refine AQ.k ?_) <;> refine AQ.es 2 ?_ <;> (refine AQ.p rfl (AOp.fr 8) ?_) <;> refine AQ.nil ?_ <;> refine AL.sl 0 ?_ <;> refine AL.nil ?_) | (refine xS 6 1 ?_; refine AL.d AOp.ad ?_; refine xN 1 ?_) | refine AW.jj (fun hb => ?_) (fun hb => ?_) | refine AW.go ?_ | fail)
          all_goals try (exfalso; simp only [dT, dF, lM] at *; omega)
          exact AW.again_keep (FF.length - (i + 1)) [0, 1, 5, 6] (by omega) ⟨i + 1, hlt, rfl, rfl, by rw [hall]; rfl, trivial⟩
      · rw [List.take_of_length_le (by omega)]
        generalize hFA : (FF.all fun v => has vars v) = FA at *
        repeat' (first | refine AW.re 5 4 ?_ | (refine xS 8 2 ?_; refine AL.d (AOp.fr 0) ?_; refine AL.d (AOp.fr 5) ?_; refine AL.d (AOp.ll 0) ?_; refine AL.d (iX hx0') ?_; refine AL.d AOp.la ?_; refine AL.d (AOp.call rfl rfl (hS.pure _)) ?_; refine xN 1 ?_) | refine AW.re 9 1 ?_ | refine AW.jj (fun hb => ?_) (fun hb => ?_) | refine AW.go ?_ | fail)
        all_goals try (exfalso; simp only [dT, dF, lM] at *; omega)
        refine AW.own_nil 1 ?_
        refine AW.prune [0, 1, 7, 8] (AW.loop (fun mz af h => ∃ (i : Nat) (out : List ByteArray) (tb : Option Nat) (tc : Nat), i ≤ SS.length ∧ mz = SS.length - i ∧ af = [(0, .ref bw 0), (1, .ref b 0), (7, .sl (SS.map GSym.av)), (8, .int .i64 i)] ∧ h = .tail tb (out.map AV.str).length tc 1 :: .box b (.st [.st [.int .i64 k, .int .i64 ar, .str nm, strs vars, strs args, .sl ([x].map GFml.av)], .sl kb, .bool true, .bool FA, .bool false, .bool false, .slt (out.map AV.str) tb tc, zTab]) :: (wH bw s ++ nownL kids) ∧ (out = (((SS.take i).filter fun y => !decide (y.Name = nm)).map GSym.Name) ∧ out.length ≤ i)) SS.length ⟨0, [], none, 0, Nat.zero_le _, rfl, rfl, rfl, ⟨rfl, Nat.le_refl _⟩⟩ ?_)
        rintro mz af h ⟨i, out, tb, tc, hi, rfl, rfl, rfl, he⟩
        refine AW.seq ?_
        by_cases hlt : i < SS.length
        all_goals obtain ⟨he, hlo⟩ := he
        · obtain ⟨y, hy⟩ := get_lt hlt
          have hy' : (SS.map GSym.av)[((i : Nat) : Int).toNat]? = some (.st [.str y.Name, .int .i64 y.Arity]) := map_get hy
          have htk : SS.take (i + 1) = SS.take i ++ [y] := by rw [List.take_add_one, hy]; rfl
          repeat' (first | refine AW.re 10 4 ?_ | (refine AW.dq 12 ?_; refine AQ.es 2 ?_; refine AQ.p rfl (iX hy') ?_; refine AQ.p rfl AOp.fa ?_; refine AQ.p rfl AOp.la ?_; refine AQ.es 2 ?_; refine AQ.p rfl (AOp.fr 0) ?_; refine AQ.p rfl (AOp.fr 2) ?_; refine AQ.p rfl (AOp.ll 1) ?_; refine AQ.es 1 ?_; refine AQ.nil ?_) | refine AW.jj (fun hb => ?_) (fun hb => ?_) | refine AW.go ?_ | fail)
          all_goals try (exfalso; simp only [dT, dF, lM] at *; omega)
          all_goals rw [toList_beq] at hb
          · have hb : ¬ y.Name = nm := by simpa using hb
            repeat' (first | (refine AW.ex 13 [true, true] [11, 14] ?_; refine AQE.e ?_; refine AQE.e ?_; refine AQE.e ?_; refine AQE.p rfl (AOp.fr 11) ?_; refine AQE.pe rfl (AOp.ll 1) ?_; refine AQE.e ?_; refine AQE.e ?_; refine AQE.p rfl (iX hy') ?_; refine AQE.p rfl AOp.fa ?_; refine AQE.p rfl AOp.la ?_; refine AQE.p rfl (AOp.lit (e := 9) (sz := 1) (by kernel_rfl) rfl rfl rfl (P_one rfl) (by decide)) ?_; refine AQE.hl ?_; refine AQE.e ?_; refine AQE.p rfl (AOp.fr 11) ?_; refine AQE.hl ?_; refine AQE.nil ?_; refine AX.o (n := 1) 11 ?_; refine AXO.append (i := 0) (e := 9) (sz := 1) (bytes := 16) rfl rfl rfl rfl (by kernel_rfl) (by kernel_rfl) (by repeat' (exact P_map fun _ => rfl)) (by repeat' (exact P_one rfl)) (ok_all (by repeat' (exact P_one rfl))) (by (try simp only [lA, lM, List.length_take, List.length_drop, List.length_cons, List.length_nil, List.length_replicate]); omega) (by (try simp only [lA, lM, List.length_take, List.length_drop, List.length_cons, List.length_nil, List.length_replicate]); omega) rfl fun b' c' => ?_ <;> try dsimp only [sA, sB, sC, sD] <;> refine AX.o (n := 0) 14 ?_ <;> (refine AXO.sl 1 fun _ => ?_) <;> try dsimp only [sA, sB, sC, sD] <;> refine AX.done_keep [0, 1, 4, 5, 6, 7, 8, 9, 10, 11, 12, 13, 14, 15, 16, 17, 18, 19, 20, 21, 22, 23, 24, 25, 26, 27, 28, 29, 30, 31, 32, 33, 34, 35, 36, 37, 38, 39, 40, 41, 42, 43, 44, 45, 46, 47, 48, 49, 50, 51, 52, 53, 54, 55, 56, 57, 58, 59, 60, 61, 62, 63, 64, 65, 66, 67, 68, 69, 70, 71, 72, 73, 74, 75, 76, 77, 78, 93, 94, 95, 96, 97, 98, 99, 100, 101, 102, 103, 104, 105, 106, 107, 108, 109, 110, 111, 112, 113, 114, 115, 116, 117, 118, 119, 120, 121, 122] ?_) | (refine xS 11 1 ?_; refine AL.d AOp.ad ?_; refine xN 1 ?_) | fail)
            have hmm : (out ++ [y.Name]).map AV.str = out.map AV.str ++ [.str y.Name] := by simp
            refine AW.again_keep (SS.length - (i + 1)) [0, 1, 7, 8] (by omega) ⟨i + 1, out ++ [y.Name], b', c', hlt, rfl, rfl, ?_, ?_, by simp; omega⟩
            · rw [hmm]; rfl
            · rw [htk, List.filter_append, List.map_append, he]; simp [hb]
          · have hb : y.Name = nm := by simpa using hb
            repeat' (first | (refine xS 11 1 ?_; refine AL.d AOp.ad ?_; refine xN 1 ?_) | fail)
            refine AW.again_keep (SS.length - (i + 1)) [0, 1, 7, 8] (by omega) ⟨i + 1, out, tb, tc, hlt, rfl, rfl, rfl, ?_, by omega⟩
            rw [htk, List.filter_append, List.map_append, he]; simp [hb]
        · rw [List.take_of_length_le (by omega)] at he
          repeat' (first | refine AW.re 10 4 ?_ | refine AW.jj (fun hb => ?_) (fun hb => ?_) | refine AW.go ?_ | fail)
          all_goals try (exfalso; simp only [dT, dF, lM] at *; omega)
          refine AW.weak_box 1 (.st [.st [.int .i64 k, .int .i64 ar, .str nm, strs vars, strs args, .sl ([x].map GFml.av)], .sl kb, .bool true, .bool FA, .bool false, .bool false, strs out, zTab]) rfl (Wk.st (.cons (Wk.refl _) (.cons (Wk.refl _) (.cons (Wk.refl _) (.cons (Wk.refl _) (.cons (Wk.refl _) (.cons (Wk.refl _) (.cons Wk.slt (.cons (Wk.refl _) .nil))))))))) ?_
          refine AW.drop (List.sublist_cons_self _ _) ?_
          refine AW.meet [0, 1] ⟨.m1 FA out, rfl, ?_, ?_, rfl, (fun h => by cases h), fun _ => rfl⟩
          · rw [hkb]; rfl
          · rw [he]; exact hnew
  · rintro _ _ ⟨m', rfl, rfl, hm1, hm2, hm3, hm4⟩
    have hal := mOk_alone hm2 hm1
    have hAn := fun v => Among_has m'.nms (by have := hal.2.2; omega) v
    obtain ⟨n1, n2, t1, t2, t3, _⟩ := hs
    have hcl := tcells_len s.ts
    have hfr : ∀ v, ((s.T.drop s.base).all fun p => !has m'.nms p.1) = v → v = true → m'.fr = true → Alone s.T s.base ⟨k, ar, nm, vars, args, [x]⟩ := fun v hv e hfr => by
      subst e
      refine ⟨hal.1 hfr, fun t ht hne => ?_⟩
      have hin := (hal.2.1 t ht).resolve_left hne
      refine lkT_none.2 fun p hp e => ?_
      have := List.all_eq_true.1 hv p hp
      rw [e, has_mem.2 hin] at this
      cases this
    refine AW.frame_eq rfl (show _ = .box b (.st [.st [.int .i64 k, .int .i64 ar, .str nm, strs vars, strs args, .sl ([x].map GFml.av)], .sl kb, .bool true, .bool m'.fr, .bool m'.dn, .bool m'.nn, strs m'.nms, m'.tab]) :: (wH bw s ++ (m'.own ++ nownL kids)) from by rw [hkb, hH_kn hm2]; rfl) ?_
    repeat' (first | (refine xS 14 2 ?_; refine AL.d (AOp.fr 1) ?_; refine AL.d (AOp.ll 1) ?_; refine xN 1 ?_) | refine AW.go ?_ | fail)
    refine AW.prune [0, 1, 9] (AW.loop (fun mz af h => ∃ i : Nat, s.base ≤ i ∧ i ≤ s.ts.length ∧ mz = s.ts.length - i ∧ af = [(0, .ref bw 0), (1, .ref b 0), (9, .int .i64 i)] ∧ h = .box b (.st [.st [.int .i64 k, .int .i64 ar, .str nm, strs vars, strs args, .sl ([x].map GFml.av)], .sl kb, .bool true, .bool m'.fr, .bool m'.dn, .bool m'.nn, strs m'.nms, m'.tab]) :: (wH bw s ++ (m'.own ++ nownL kids)) ∧ (((s.T.take i).drop s.base).all fun p => !has m'.nms p.1) = true) (s.ts.length - s.base) ⟨s.base, Nat.le_refl _, hb, rfl, rfl, rfl, by rw [List.drop_eq_nil_of_le (by rw [List.length_take]; omega)]; rfl⟩ ?_)
    rintro mz af h ⟨i, hi0, hi, rfl, rfl, rfl, he⟩
    refine AW.seq ?_
    by_cases hlt : i < s.ts.length
    · obtain ⟨t, ht⟩ := get_lt hlt
      obtain ⟨bt, hbt⟩ : ∃ b, s.to = some b := by
        cases h : s.to with
        | none => have := t2 h; omega
        | some b => exact ⟨b, rfl⟩
      obtain ⟨c0, c1, c2⟩ := tcells_get s.ts i t ht
      have hx0 : (tcells s.ts ++ s.tt)[((i : Nat) : Int).toNat * 3 + 0]? = some (.str t.nm) := by
        rw [show ((i : Nat) : Int).toNat * 3 + 0 = 3 * i by omega, List.getElem?_append_left (by omega)]; exact c0
      have hh2 : (Own.box b (.st [.st [.int .i64 k, .int .i64 ar, .str nm, strs vars, strs args, .sl ([x].map GFml.av)], .sl kb, .bool true, .bool m'.fr, .bool m'.dn, .bool m'.nn, strs m'.nms, m'.tab]) :: (wH bw s ++ (m'.own ++ nownL kids)))[2]? = some (.row bt (tcells s.ts ++ s.tt)) := by
        show some (bfO s.to _) = _; rw [hbt]; rfl
      have hA1 : bfA s.to = some ⟨bt, 0, none⟩ := by rw [hbt]; rfl
      have hAt := hAn t.nm
      have hT : s.T[i]? = some (t.nm, t.bits) := by unfold WS.T; rw [List.getElem?_map, ht]; rfl
      have htk : (s.T.take (i + 1)).drop s.base = (s.T.take i).drop s.base ++ [(t.nm, t.bits)] := by
        have hl : i < s.T.length := by unfold WS.T; rw [lM]; exact hlt
        rw [List.take_add_one, hT, List.drop_append, List.length_take, Nat.min_eq_left (by omega), show s.base - i = 0 by omega]; rfl
      repeat' (first | (refine xS 15 3 ?_; refine AL.d (AOp.fr 2) ?_; refine AL.d (AOp.ll 1) ?_; refine AL.d (AOp.len_val (by kernel_rfl) rfl) ?_; refine xN 1 ?_) | (refine AW.dl 17 12 ?_; refine AQ.es 2 ?_; refine AQ.p rfl (AOp.fr 11) ?_; refine AQ.p rfl (AOp.ll 0) ?_; refine AQ.es 2 ?_; refine AQ.p rfl (AOp.fr 2) ?_; refine AQ.p rfl (AOp.ll 1) ?_; refine AQ.es 1 ?_; refine AQ.p rfl (AOp.index_val 3 rfl hA1 rfl (by omega) (by omega) (by kernel_rfl)) ?_; refine AQ.p rfl (AOp.fr 0) ?_; refine AQ.p rfl (AOp.load_cell 2 rfl hh2 hx0 rfl (by kernel_rfl)) ?_; refine AQ.nil ?_; refine AL.d (AOp.call rfl rfl (hAt.pure _)) ?_; refine AL.nil ?_) | refine AW.jj (fun hb => ?_) (fun hb => ?_) | refine AW.go ?_ | fail)
      all_goals try (exfalso; simp only [dT, dF, lM] at *; omega)
      · repeat' (first | refine AW.re 18 1 ?_ | fail)
        exact AW.retv rfl ⟨false, m', rfl, by show _ = hH bw s (.mk b _ m' kids); rw [hkb, hH_kn hm2]; rfl, hm1, hm2, hm3, hm4, fun h => by cases h⟩
      · repeat' (first | (refine xS 16 1 ?_; refine AL.d AOp.ad ?_; refine xN 1 ?_) | fail)
        refine AW.again_keep (s.ts.length - (i + 1)) [0, 1, 9] (by omega) ⟨i + 1, by omega, hlt, rfl, rfl, rfl, ?_⟩
        rw [htk, List.all_append, he]
        have hb : has m'.nms t.nm = false := hb
        simp [hb]
    · repeat' (first | (refine xS 15 3 ?_; refine AL.d (AOp.fr 2) ?_; refine AL.d (AOp.ll 1) ?_; refine AL.d (AOp.len_val (by kernel_rfl) rfl) ?_; refine xN 1 ?_) | refine AW.jj (fun hb => ?_) (fun hb => ?_) | refine AW.go ?_ | fail)
      all_goals try (exfalso; simp only [dT, dF, lM] at *; omega)
      repeat' (first | (refine xS 19 2 ?_; refine AL.d (AOp.fr 8) ?_; refine AL.d (AOp.ll 0) ?_; refine xN 1 ?_) | fail)
      refine AW.retv rfl ⟨m'.fr, m', rfl, by show _ = hH bw s (.mk b _ m' kids); rw [hkb, hH_kn hm2]; rfl, hm1, hm2, hm3, hm4, fun h => ⟨h, hfr _ rfl ?_ h⟩⟩
      rw [List.take_of_length_le (by unfold WS.T; rw [lM]; omega)] at he
      exact he
theorem HoldsAt.same {bw : Nat} {K : NT → Prop} {s s' : WS} {o o' : Option Nat} {c c' : Nat} {tl tl' : List AV} {t t' : TE} {n n' : NT} {names : List ByteArray} {tp : List Int} {v : Bool} (h : HoldsAt bw K (s.push o c tl t) n names tp v) (hs : Same s s') (hb : n'.b = n.b) (hf : n'.f = n.f) (ht : t' = t) : HoldsAt bw K (s'.push o' c' tl' t') n' names tp v := by
 subst ht
 intro s2 n2 h1 h2 h3 h4 h5 h6 h7 h8 h9
 refine h s2 n2 h1 (h2.trans hs.N) (h3.trans hs.base) ?_ ?_ ?_ (h7.trans hb) (h8.trans hf) h9
 ·rw [h4]; show s'.ts ++ [t'] = s.ts ++ [t']; rw [hs.ts]
 ·rw [h5]; show s'.ns ++ names = s.ns ++ names; rw [hs.ns]
 ·rw [h6]; show s'.vs ++ tp = s.vs ++ tp; rw [hs.vs]
theorem ref_same2 (ba bb m : Nat) (a b : List Bool) (ha : a.length = m) (hb0 : b.length = m) (hm : m ≤ 1000000) :
  Tri Tryz.prog 214 [.osl ba m m, .osl bb m m] [.row bb (b.map bav), .row ba (a.map bav)] (D (.bool (decide (a = b))) [.row bb (b.map bav), .row ba (a.map bav)]) :=
 Tri.reorder (ref_same ba bb m a b ha hb0 hm) (.swap _ _ _) fun x h ⟨e1, e2⟩ => ⟨_, ⟨e1, rfl⟩, by rw [e2]; exact .swap _ _ _⟩
def seenA (seen : List (List Bool)) : List (ByteArray × Bool) := seen.map fun X => (keyB X, true)
theorem seenA_look {X : List Bool} : ∀ {seen : List (List Bool)}, X ∉ seen → lookA (seenA seen) (keyB X) = none
 | [], _ => rfl
 | Y :: l, h => by
  unfold seenA; rw [List.map_cons, lookA, if_neg fun e => h (by rw [keyB_inj e]; simp)]
  exact seenA_look fun hm => h (by simp [hm])
theorem seenA_hit {X : List Bool} : ∀ {seen : List (List Bool)}, X ∈ seen → lookA (seenA seen) (keyB X) = some true
 | [], h => by cases h
 | Y :: l, h => by
  unfold seenA; rw [List.map_cons, lookA]
  by_cases e : keyB X = keyB Y
  ·rw [if_pos e]
  ·rw [if_neg e]
   exact seenA_hit ((List.mem_cons.1 h).resolve_left fun x => e (by rw [x]))
theorem seenA_push {X : List Bool} {seen : List (List Bool)} (h : X ∉ seen) : setA (seenA seen) (keyB X) true = seenA (seen ++ [X]) := by
 rw [setA_miss (seenA_look h)]; unfold seenA; rw [List.map_append]; rfl
def PJ (N M : Nat) (f : GFml) (T : TT) (V : VV) (L : Nat) (X : List Bool) (seen : List (List Bool)) (mz : Nat) : Prop :=
 X.length = L ∧ ((f.Kind = 8 ∧ seen = [] ∧ ∃ j, fixO N M f T V = some (lfpR (stg N M f T V) (j + 1) X) ∧ L - cntB X ≤ j ∧ LB X (stg N M f T V X) ∧ mz = L - cntB X) ∨
  (f.Kind = 9 ∧ ∃ j, fixO N M f T V = pfpR (stg N M f T V) j seen X ∧ j + seen.length = M ∧ X ∉ seen ∧ seen.length ≤ 5000 ∧ mz = M - seen.length))
section
variable {N M : Nat} {f : GFml} {T : TT} {V : VV} {L : Nat} {X : List Bool} {seen : List (List Bool)} {mz : Nat}
theorem PJ.init (hk : f.Kind = 8 ∨ f.Kind = 9) (hL : L = N ^ f.Vars.length) : ∃ mz, PJ N M f T V L (falses L) [] mz := by
 rcases hk with h | h
 ·refine ⟨_, falses_len L, .inl ⟨h, rfl, L, ?_, by omega, LB.falses _ _, rfl⟩⟩
  unfold fixO; rw [if_pos h, hL]
 ·refine ⟨_, falses_len L, .inr ⟨h, M, ?_, by simp, by simp, by simp, rfl⟩⟩
  unfold fixO; rw [if_neg (by omega), hL]
theorem PJ.stop (h : PJ N M f T V L X seen mz) (hM : 5001 < M) (e : X = stg N M f T V X) : fixO N M f T V = some X := by
 obtain ⟨_, ⟨h1, h2, j, h3, h4, h5, h6⟩ | ⟨h1, j, h3, h4, h5, h6, h7⟩⟩ := h
 ·rw [h3, lfpR, if_pos e.symm]
 ·obtain ⟨i, rfl⟩ : ∃ i, j = i + 1 := ⟨j - 1, by omega⟩
  rw [h3, pfpR, if_pos e.symm]
theorem PJ.next8 (h : PJ N M f T V L X seen mz) (hk : f.Kind = 8) (hL : L = N ^ f.Vars.length) (hS : SM (stg N M f T V)) (e : X ≠ stg N M f T V X) : ∃ mz', mz' < mz ∧ PJ N M f T V L (stg N M f T V X) [] mz' ∧ seen = [] := by
 obtain ⟨hl, ⟨h1, h2, j, h3, h4, h5, h6⟩ | ⟨h1, _⟩⟩ := h
 ·have hsl : (stg N M f T V X).length = L := by rw [stg_len, hL]
  have hc := cnt_lt _ _ (hl.trans hsl.symm) h5 e
  have hc2 := cnt_le (stg N M f T V X)
  obtain ⟨i, rfl⟩ : ∃ i, j = i + 1 := ⟨j - 1, by omega⟩
  refine ⟨L - cntB (stg N M f T V X), by omega, ⟨hsl, .inl ⟨hk, rfl, i, ?_, by omega, hS _ _ h5, rfl⟩⟩, h2⟩
  rw [h3, lfpR, if_neg fun x => e x.symm]
 ·omega
theorem PJ.none1 (h : PJ N M f T V L X seen mz) (hk : f.Kind = 9) (hM : 5001 < M) (e : X ≠ stg N M f T V X) (hm : stg N M f T V X ∈ seen ++ [X] ∨ 5000 < (seen ++ [X]).length) : fixO N M f T V = none := by
 obtain ⟨hl, ⟨h1, _⟩ | ⟨h1, j, h3, h4, h5, h6, h7⟩⟩ := h
 ·omega
 ·obtain ⟨i, rfl⟩ : ∃ i, j = i + 1 := ⟨j - 1, by omega⟩
  rw [h3, pfpR, if_neg fun x => e x.symm]
  by_cases hc : (seen ++ [X]).contains (stg N M f T V X) = true
  ·rw [if_pos hc]
  ·rw [if_neg hc]
   rcases hm with hm | hm
   ·exact (hc (List.contains_iff_mem.2 hm)).elim
   ·rw [if_pos hm]
theorem PJ.next9 (h : PJ N M f T V L X seen mz) (hk : f.Kind = 9) (hL : L = N ^ f.Vars.length) (hM : 5001 < M) (e : X ≠ stg N M f T V X) (hm : stg N M f T V X ∉ seen ++ [X]) (h5 : (seen ++ [X]).length ≤ 5000) : ∃ mz', mz' < mz ∧ PJ N M f T V L (stg N M f T V X) (seen ++ [X]) mz' := by
 obtain ⟨hl, ⟨h1, _⟩ | ⟨h1, j, h3, h4, h6, h7, h8⟩⟩ := h
 ·omega
 ·obtain ⟨i, rfl⟩ : ∃ i, j = i + 1 := ⟨j - 1, by omega⟩
  have hlen : (seen ++ [X]).length = seen.length + 1 := by simp
  refine ⟨M - (seen ++ [X]).length, by omega, by rw [stg_len, hL], .inr ⟨hk, i, ?_, by omega, hm, h5, rfl⟩⟩
  rw [h3, pfpR, if_neg fun x => e x.symm, if_neg fun hc => hm (List.contains_iff_mem.1 hc), if_neg (by omega)]
end
theorem perm_4e {α : Type} (a b c d : α) (R : List α) : (a :: b :: c :: d :: R).Perm (R ++ [a, b, c, d]) := List.perm_append_comm (l₁ := [a, b, c, d])
theorem perm_5p {α : Type} (m7 b6 r b4 b : α) (R : List α) : (m7 :: b6 :: r :: b4 :: b :: R).Perm (b4 :: b6 :: m7 :: b :: r :: R) := by
  classical
  rw [List.perm_iff_count]
  intro x
  simp only [List.count_cons]
  omega
theorem perm_5q {α : Type} (x a b c d : α) (R : List α) : (x :: R ++ [a, b, c, d]).Perm (x :: a :: b :: c :: d :: R) := by
  classical
  rw [List.perm_iff_count]
  intro x
  simp only [List.count_cons, List.count_append, List.cons_append, List.count_nil]
  omega
theorem w_point (bw N M b : Nat) (f x : GFml) (m : Mm) (kb : List Nat) (k : NT) (s : WS) (K : NT → Prop) (L : Nat) (hN : s.N = N) (hL : L = N ^ f.Vars.length) (hL2 : L ≤ 4096) (hkd : f.Kind = 8 ∨ f.Kind = 9) (hkb : kb[0]? = some k.b) (hM : 5001 < M) (hs : s.Ok)
    (hvl : f.Vars.length ≤ 1000) (hn : s.ns.length + f.Vars.length ≤ 100000) (ht : s.ts.length + 1 ≤ 10000) (hk : K k) (hmono : f.Kind = 8 → SM (stg N M f s.T s.V))
    (H : ∀ now : TE, now.nm = f.Name → now.bits.length = L → ∀ i, i < L → HoldsAt bw K (s.push none 0 [] now) k f.Vars (tup s.N f.Vars.length i) (semH N M f.Kids (s.T ++ [(f.Name, now.bits)]) (s.V ++ f.Vars.zip (tup N f.Vars.length i)))) :
    Tri Tryz.prog 195 [.ref bw 0, .ref b 0] (.box b (nbox f kb m) :: hH bw s k)
      (fun r h => ∃ (s' : WS) (k' : NT) (t : TE) (B : Bool), r = .ret (.tup [t.av, .bool B]) ∧ h = .box b (nbox f kb m) :: t.row :: hH bw s' k' ∧ Same s s' ∧ k'.b = k.b ∧ k'.f = k.f ∧ K k' ∧ t.bits.length = L ∧ fixO N M f s.T s.V = if B then some t.bits else none) := by
  have hT := ref_TableNew s.N f.Vars.length f.Name ⟨hs.n1, hs.n2⟩ (by omega) (by rw [hN, ← hL]; exact hL2)
  have hkx : (kb.map fun b => AV.ref b 0)[((0 : Nat) : Int).toNat]? = some (.ref k.b 0) := by rw [List.getElem?_map, show ((0 : Nat) : Int).toNat = 0 from rfl, hkb]; rfl
  have hkx' : (kb.map fun b => AV.ref b 0)[(0 : Int).toNat]? = some (.ref k.b 0) := hkx
  have hVl : lenOf (strs f.Vars) = some ((f.Vars.length : Nat) : Int) := by show some (((f.Vars.map AV.str).length : Nat) : Int) = _; rw [lM]
  rw [show s.N ^ f.Vars.length = L by rw [hN, hL]] at hT
  refine Tri.enter 70 Tryz.func195 rfl rfl rfl rfl fun Fr w0 => ?_
  refine AW.frame_eq rfl (show _ = .box b (.st [.st [.int .i64 f.Kind, .int .i64 f.Arity, .str f.Name, strs f.Vars, strs f.Args, .sl (f.Kids.map GFml.av)], .sl (kb.map fun b => .ref b 0), .bool m.kn, .bool m.fr, .bool m.dn, .bool m.nn, m.nav, m.tab]) :: hH bw s k from rfl) ?_
  repeat' (first | (refine AW.r 0 ?_; refine AL.alloc_z (t := 193) zTb (by kernel_rfl) rfl rfl fun b4 => ?_; refine xN 1 ?_) | fail)
  refine AW.seq ?_
  refine AW.cut (fun af h => ∃ b6 hb, af = [(0, .ref bw 0), (1, .ref b 0), (4, .ref b4 0), (6, .ref b6 0)] ∧ h = .box b6 (.st [.str f.Name, .int .i64 f.Vars.length, .osl hb L L]) :: .row hb (List.replicate L (.bool false)) :: .box b4 zTb :: .box b (.st [.st [.int .i64 f.Kind, .int .i64 f.Arity, .str f.Name, strs f.Vars, strs f.Args, .sl (f.Kids.map GFml.av)], .sl (kb.map fun b => .ref b 0), .bool m.kn, .bool m.fr, .bool m.dn, .bool m.nn, m.nav, m.tab]) :: hH bw s k) ?_ ?_
  · repeat' (first | fail)
    refine AW.explore [] [15, 16, 17] rfl (by kernel_rfl) (by kernel_rfl) (by kernel_rfl) (by kernel_rfl) ?_
    refine AQE.ev rfl rfl rfl rfl ?_
    refine AQE.ev rfl rfl rfl rfl ?_
    first | refine AQE.op rfl AOp.fa rfl rfl ?_ | refine AQE.op rfl (AOp.fr 0) rfl rfl ?_
    refine AQE.op rfl (AOp.ll 3) rfl rfl ?_
    refine AQE.ev rfl rfl rfl rfl ?_
    refine AQE.ev rfl rfl rfl rfl ?_
    first | refine AQE.op rfl AOp.fa rfl rfl ?_ | refine AQE.op rfl (AOp.fr 0) rfl rfl ?_
    first | refine AQE.op rfl AOp.fa rfl rfl ?_ | refine AQE.op rfl (AOp.fr 2) rfl rfl ?_
    refine AQE.op rfl (AOp.ll 1) rfl rfl ?_
    refine AQE.ev rfl rfl rfl rfl ?_
    refine AQE.ev rfl rfl rfl rfl ?_
    first | refine AQE.op rfl AOp.fa rfl rfl ?_ | refine AQE.op rfl (AOp.fr 0) rfl rfl ?_
    first | refine AQE.op rfl AOp.fa rfl rfl ?_ | refine AQE.op rfl (AOp.fr 3) rfl rfl ?_
    refine AQE.op rfl (AOp.ll 1) rfl rfl ?_
    refine AQE.op rfl (AOp.len rfl hVl (by kernel_rfl)) rfl rfl ?_
    refine AQE.hole rfl rfl ?_
    refine AQE.hole rfl rfl ?_
    refine AQE.hole rfl rfl ?_
    refine AQE.nil ?_
    repeat' (first | refine AX.two (n := 2) 15 16 rfl ?_ ?_ | refine AX.one (n := 1) 15 rfl ?_ | refine AX.one (n := 1) 16 rfl ?_ | refine AX.one (n := 0) 17 rfl ?_ | (refine AXS.step (i := 15) rfl rfl rfl (AOp.call rfl rfl (hT.pureE _)) ?_ (by rintro _ _ ⟨_, ⟨_, e, _⟩, _⟩; cases e); rintro _ _ ⟨_, ⟨hb, e, rfl⟩, rfl⟩; injection e with e; subst e; dsimp only [sA, sB, sC, sD]) | (refine AXS.new (i := 16) rfl rfl rfl (AOp.alloc (t := 193) (z := zTb) (by kernel_rfl) rfl) (fun b6 => ?_); dsimp only [sA, sB, sC, sD]) | (refine AXS.at (q := 17) rfl rfl ?_; refine AXO.sl 0 (fun _ => ?_); dsimp only [sA, sB, sC, sD]) | (refine AXS.at (q := 17) rfl rfl ?_; refine AXO.sl 1 (fun _ => ?_); dsimp only [sA, sB, sC, sD]) | fail)
    all_goals refine AX.done_keep [0,1,4,6] ?_
    all_goals first
      | exact AW.meet [0, 1, 4, 6] ⟨b6, hb, rfl, rfl⟩
      | exact AW.perm (.swap _ _ _) (AW.meet [0, 1, 4, 6] ⟨b6, hb, rfl, rfl⟩)
  rintro _ _ ⟨b6, hb, rfl, rfl⟩
  obtain ⟨mz0, hJ0⟩ := PJ.init (M := M) (T := s.T) (V := s.V) hkd hL
  repeat' (first | (refine AW.r 2 ?_; refine AL.makeMap rfl fun m7 => ?_; refine xN 1 ?_) | refine AW.go ?_ | fail)
  refine AW.perm (perm_5p _ _ _ _ _ _) ?_
  refine AW.prune [0, 1, 4, 6, 7] (AW.loop (fun mz af h => ∃ (now : TE) (seen : List (List Bool)) (g : MG) (s' : WS) (k' : NT), af = [(0, .ref bw 0), (1, .ref b 0), (4, .ref b4 0), (6, .ref b6 0), (7, .map m7)] ∧
    h = .box b4 zTb :: .box b6 (.st [.str now.nm, .int .i64 now.ar, .osl now.hb L L]) :: .map m7 (kvW bav (seenA seen)) g :: .box b (.st [.st [.int .i64 f.Kind, .int .i64 f.Arity, .str f.Name, strs f.Vars, strs f.Args, .sl (f.Kids.map GFml.av)], .sl (kb.map fun b => .ref b 0), .bool m.kn, .bool m.fr, .bool m.dn, .bool m.nn, m.nav, m.tab]) :: now.row :: hH bw s' k' ∧
    now.nm = f.Name ∧ Same s s' ∧ k'.b = k.b ∧ k'.f = k.f ∧ K k' ∧ PJ N M f s.T s.V L now.bits seen mz) mz0 ⟨⟨f.Name, f.Vars.length, hb, falses L⟩, [], ⟨[], 0⟩, s, k, rfl, by unfold TE.row; rw [falses_map]; rfl, rfl, Same.refl hs, rfl, rfl, hk, hJ0⟩ ?_)
  rintro mz af h ⟨now, seen, g, s1, k1, rfl, rfl, hnm, sm, kb1, kf1, hk1, hJ⟩
  have hbl := hJ.1
  have hst := w_stage bw K (fun i => semH N M f.Kids (s.T ++ [(f.Name, now.bits)]) (s.V ++ f.Vars.zip (tup N f.Vars.length i))) k1 s1 f.Vars now L (by rw [sm.N, hN]; exact hL) hbl hL2 sm.ok (by rw [sm.ns]; exact hn) (by rw [sm.ts]; exact ht) hk1
    (fun i hi o c tl => by rw [sm.N]; exact (H now hnm hbl i hi).same sm kb1 kf1 rfl)
  have hnav : now.av = .st [.str now.nm, .int .i64 now.ar, .osl now.hb L L] := by unfold TE.av; rw [hbl]
  rw [hnav, kb1, show (List.range L).map (fun i => semH N M f.Kids (s.T ++ [(f.Name, now.bits)]) (s.V ++ f.Vars.zip (tup N f.Vars.length i))) = stg N M f s.T s.V now.bits by unfold stg; rw [hL]] at hst
  refine AW.block ?_
  refine AW.seq ?_
  refine AW.cut (fun af h => ∃ b8 s' k' out, af = [(0, .ref bw 0), (1, .ref b 0), (4, .ref b4 0), (6, .ref b6 0), (7, .map m7), (8, .ref b8 0)] ∧ h = .box b8 (TE.av out) :: .box b4 zTb :: .box b6 (.st [.str now.nm, .int .i64 now.ar, .osl now.hb L L]) :: .map m7 (kvW bav (seenA seen)) g :: .box b (.st [.st [.int .i64 f.Kind, .int .i64 f.Arity, .str f.Name, strs f.Vars, strs f.Args, .sl (f.Kids.map GFml.av)], .sl (kb.map fun b => .ref b 0), .bool m.kn, .bool m.fr, .bool m.dn, .bool m.nn, m.nav, m.tab]) :: out.row :: now.row :: hH bw s' k' ∧ Same s1 s' ∧ k'.b = k.b ∧ k'.f = k1.f ∧ K k' ∧ out.nm = now.nm ∧ out.bits = stg N M f s.T s.V now.bits) ?_ ?_
  · refine AW.perm (perm_4e _ _ _ _ _) ?_
    repeat' (first | fail)
    refine AW.exploreA [13, 14, 15] rfl (by kernel_rfl) (by kernel_rfl) (by kernel_rfl) (by kernel_rfl) ?_
    refine AQE.ev rfl rfl rfl rfl ?_
    refine AQE.ev rfl rfl rfl rfl ?_
    refine AQE.ev rfl rfl rfl rfl ?_
    first | refine AQE.op rfl AOp.fa rfl rfl ?_ | refine AQE.op rfl (AOp.fr 0) rfl rfl ?_
    first | refine AQE.op rfl AOp.fa rfl rfl ?_ | refine AQE.op rfl (AOp.fr 3) rfl rfl ?_
    refine AQE.op rfl (AOp.ll 3) rfl rfl ?_
    refine AQE.ev rfl rfl rfl rfl ?_
    refine AQE.ev rfl rfl rfl rfl ?_
    first | refine AQE.op rfl AOp.fa rfl rfl ?_ | refine AQE.op rfl (AOp.fr 6) rfl rfl ?_
    refine AQE.op rfl (AOp.ll 3) rfl rfl ?_
    refine AQE.op rfl (iX hkx') rfl rfl ?_
    refine AQE.op rfl (AOp.la) rfl rfl ?_
    refine AQE.op rfl (AOp.lw 1) rfl rfl ?_
    refine AQE.hole rfl rfl ?_
    refine AQE.hole rfl rfl ?_
    refine AQE.hole rfl rfl ?_
    refine AQE.nil ?_
    repeat' (first | refine AX.two (n := 2) 13 14 rfl ?_ ?_ | refine AX.one (n := 1) 13 rfl ?_ | refine AX.one (n := 1) 14 rfl ?_ | refine AX.one (n := 0) 15 rfl ?_ | (refine AXS.at (q := 13) rfl rfl ?_; refine AXO.callQ rfl rfl hst rfl ?_ ?_; rotate_left; rintro _ _ ⟨_, _, _, e, _⟩; cases e; rintro _ _ ⟨s2, k2, out, e, rfl, sm2, kb2, kf2, hk2, hnm2, har2, hbit⟩; injection e with e; subst e; dsimp only [sA, sB, sC, sD]) | (refine AXS.at (q := 13) rfl rfl ?_; refine AXO.callQ rfl rfl (Tri.ahead hst [_]) rfl ?_ ?_; rotate_left; rintro _ _ ⟨_, ⟨_, _, _, e, _⟩, _⟩; cases e; rintro _ _ ⟨_, ⟨s2, k2, out, e, rfl, sm2, kb2, kf2, hk2, hnm2, har2, hbit⟩, rfl⟩; injection e with e; subst e; dsimp only [sA, sB, sC, sD]) | (refine AXS.new (i := 14) rfl rfl rfl (AOp.alloc (t := 193) (z := zTb) (by kernel_rfl) rfl) (fun b8 => ?_); dsimp only [sA, sB, sC, sD]) | (refine AXS.at (q := 15) rfl rfl ?_; refine AXO.sl 0 (fun _ => ?_); dsimp only [sA, sB, sC, sD]) | fail)
    all_goals refine AX.done_keep [0,1,4,6,7,8] ?_
    all_goals exact AW.perm (perm_5q _ _ _ _ _ _) (AW.meet [0, 1, 4, 6, 7, 8] ⟨b8, s2, k2, out, rfl, rfl, sm2, kb2, kf2, hk2, hnm2, hbit⟩)
  rintro _ _ ⟨b8, s2, k2, out, rfl, rfl, sm2, kb2, kf2, hk2, hnm2, hbit⟩
  have hol : out.bits.length = L := by rw [hbit, stg_len, hL]
  have hnb : now.row = .row now.hb (now.bits.map bav) := rfl
  have hob : out.row = .row out.hb (out.bits.map bav) := rfl
  refine AW.frame_eq rfl (show _ = .box b8 (.st [.str out.nm, .int .i64 out.ar, .osl out.hb L L]) :: .box b4 zTb :: .box b6 (.st [.str now.nm, .int .i64 now.ar, .osl now.hb L L]) :: .map m7 (kvW bav (seenA seen)) g :: .box b (.st [.st [.int .i64 f.Kind, .int .i64 f.Arity, .str f.Name, strs f.Vars, strs f.Args, .sl (f.Kids.map GFml.av)], .sl (kb.map fun b => .ref b 0), .bool m.kn, .bool m.fr, .bool m.dn, .bool m.nn, m.nav, m.tab]) :: .row out.hb (out.bits.map bav) :: .row now.hb (now.bits.map bav) :: hH bw s2 k2 from by unfold TE.av; rw [hol]; rfl) ?_
  have hSm := (ref_same2 now.hb out.hb L now.bits out.bits hbl hol (by omega)).aroundD [.box b8 (.st [.str out.nm, .int .i64 out.ar, .osl out.hb L L]), .box b4 zTb, .box b6 (.st [.str now.nm, .int .i64 now.ar, .osl now.hb L L]), .map m7 (kvW bav (seenA seen)) g, .box b (.st [.st [.int .i64 f.Kind, .int .i64 f.Arity, .str f.Name, strs f.Vars, strs f.Args, .sl (f.Kids.map GFml.av)], .sl (kb.map fun b => .ref b 0), .bool m.kn, .bool m.fr, .bool m.dn, .bool m.nn, m.nav, m.tab])] (hH bw s2 k2)
  have smm := sm.trans sm2
  have kff := kf2.trans kf1
  have hret : ∀ (B : Bool) (s3 : WS), Same s s3 → fixO N M f s.T s.V = (if B then some now.bits else none) → ∃ (s' : WS) (k' : NT) (t : TE) (B' : Bool), AEnd.ret (resv [.st [.str now.nm, .int .i64 now.ar, .osl now.hb L L], .bool B]) = .ret (.tup [t.av, .bool B']) ∧ (Own.box b (.st [.st [.int .i64 f.Kind, .int .i64 f.Arity, .str f.Name, strs f.Vars, strs f.Args, .sl (f.Kids.map GFml.av)], .sl (kb.map fun b => .ref b 0), .bool m.kn, .bool m.fr, .bool m.dn, .bool m.nn, m.nav, m.tab]) :: .row now.hb (now.bits.map bav) :: hH bw s3 k2) = .box b (nbox f kb m) :: t.row :: hH bw s' k' ∧ Same s s' ∧ k'.b = k.b ∧ k'.f = k.f ∧ K k' ∧ t.bits.length = L ∧ fixO N M f s.T s.V = if B' then some t.bits else none := fun B s3 h1 h2 =>
    ⟨s3, k2, now, B, by unfold TE.av; rw [hbl]; rfl, rfl, h1, kb2, kff, hk2, hbl, h2⟩
  repeat' (first | (refine AW.r 4 ?_; refine AL.d (AOp.fr 2) ?_; refine AL.d (AOp.ll 2) ?_; refine AL.d (AOp.fr 2) ?_; refine AL.d (AOp.ll 0) ?_; refine AL.d (AOp.call rfl rfl hSm) ?_; refine AL.nil ?_) | refine AW.jj (fun hb => ?_) (fun hb => ?_) | refine AW.go ?_ | fail)
  · have hb : now.bits = out.bits := of_decide_eq_true hb
    repeat' (first | (refine AW.r 5 ?_; refine AL.d (AOp.lw 2) ?_; refine AL.sl 1 ?_; refine xN 1 ?_) | fail)
    exact AW.retc (vs := [.st [.str now.nm, .int .i64 now.ar, .osl now.hb L L], .bool true]) (.cell 1 rfl rfl (by kernel_rfl) (.tmp rfl .nil)) (.cons _ (.cons _ (.cons _ (.cons _ (.cons_cons _ (.cons _ (List.Sublist.refl _))))))) (hret true s2 smm (hJ.stop hM (hb.trans hbit)))
  · have hne : now.bits ≠ out.bits := of_decide_eq_false hb
    have hne2 : now.bits ≠ stg N M f s.T s.V now.bits := by rw [← hbit]; exact hne
    repeat' (first | (refine xS 6 2 ?_; refine AL.d (AOp.fr 0) ?_; refine AL.d (AOp.fr 0) ?_; refine AL.d (AOp.ll 4) ?_; refine xN 1 ?_) | refine AW.jj (fun hb => ?_) (fun hb => ?_) | refine AW.go ?_ | fail)
    · have h9 : f.Kind = 9 := by simpa using hb
      have hX : now.bits ∉ seen := by
        obtain ⟨_, ⟨h1, _⟩ | ⟨_, _, _, _, h1, _⟩⟩ := hJ
        · omega
        · exact h1
      have hK1 := (ref_key now.hb L now.bits hbl (by omega)).aroundD [.box b8 (.st [.str out.nm, .int .i64 out.ar, .osl out.hb L L]), .box b4 zTb, .box b6 (.st [.str now.nm, .int .i64 now.ar, .osl now.hb L L]), .map m7 (kvW bav (seenA seen)) g, .box b (.st [.st [.int .i64 f.Kind, .int .i64 f.Arity, .str f.Name, strs f.Vars, strs f.Args, .sl (f.Kids.map GFml.av)], .sl (kb.map fun b => .ref b 0), .bool m.kn, .bool m.fr, .bool m.dn, .bool m.nn, m.nav, m.tab]), .row out.hb (out.bits.map bav)] (hH bw s2 k2)
      repeat' (first | (refine xS 7 1 ?_; refine AL.d (AOp.fr 2) ?_; refine AL.d (AOp.ll 2) ?_; refine AL.d (AOp.call rfl rfl hK1) ?_; refine AL.setS 3 4 bav true rfl rfl rfl rfl (by kernel_rfl) ?_; refine AL.nil ?_) | refine AW.go ?_ | fail)
      refine AW.frame_eq rfl (show _ = .box b8 (.st [.str out.nm, .int .i64 out.ar, .osl out.hb L L]) :: .box b4 zTb :: .box b6 (.st [.str now.nm, .int .i64 now.ar, .osl now.hb L L]) :: .map m7 (kvW bav (seenA (seen ++ [now.bits]))) (gsetA (seenA seen) g (keyB now.bits)) :: .box b (.st [.st [.int .i64 f.Kind, .int .i64 f.Arity, .str f.Name, strs f.Vars, strs f.Args, .sl (f.Kids.map GFml.av)], .sl (kb.map fun b => .ref b 0), .bool m.kn, .bool m.fr, .bool m.dn, .bool m.nn, m.nav, m.tab]) :: .row out.hb (out.bits.map bav) :: .row now.hb (now.bits.map bav) :: hH bw s2 k2 from by rw [← seenA_push hX]; rfl) ?_
      generalize gsetA (seenA seen) g (keyB now.bits) = g2
      have hK2 := (ref_key out.hb L out.bits hol (by omega)).aroundD [.box b8 (.st [.str out.nm, .int .i64 out.ar, .osl out.hb L L]), .box b4 zTb, .box b6 (.st [.str now.nm, .int .i64 now.ar, .osl now.hb L L]), .map m7 (kvW bav (seenA (seen ++ [now.bits]))) g2, .box b (.st [.st [.int .i64 f.Kind, .int .i64 f.Arity, .str f.Name, strs f.Vars, strs f.Args, .sl (f.Kids.map GFml.av)], .sl (kb.map fun b => .ref b 0), .bool m.kn, .bool m.fr, .bool m.dn, .bool m.nn, m.nav, m.tab])] (.row now.hb (now.bits.map bav) :: hH bw s2 k2)
      by_cases hm : out.bits ∈ seen ++ [now.bits]
      · repeat' (first | (refine xS 8 1 ?_; refine AL.d (AOp.fr 2) ?_; refine AL.d (AOp.ll 0) ?_; refine AL.d (AOp.call rfl rfl hK2) ?_; refine AL.d (AOp.lookS_hit 3 4 (g := bav) (A := seenA (seen ++ [now.bits])) (seenA_hit hm) rfl rfl rfl (by kernel_rfl)) ?_ <;> refine AL.nil ?_) | refine AW.jt ?_ | refine AW.go ?_ | fail)
        repeat' (first | (refine AW.r 9 ?_; refine AL.d (AOp.lw 2) ?_; refine AL.sl 1 ?_; refine xN 1 ?_) | fail)
        exact AW.retc (vs := [.st [.str now.nm, .int .i64 now.ar, .osl now.hb L L], .bool false]) (.cell 1 rfl rfl (by kernel_rfl) (.tmp rfl .nil)) (.cons _ (.cons _ (.cons _ (.cons _ (.cons_cons _ (.cons _ (List.Sublist.refl _))))))) (hret false s2 smm (hJ.none1 h9 hM hne2 (.inl (by rw [← hbit]; exact hm))))
      · repeat' (first | (refine xS 8 1 ?_; refine AL.d (AOp.fr 2) ?_; refine AL.d (AOp.ll 0) ?_; refine AL.d (AOp.call rfl rfl hK2) ?_; refine AL.d (AOp.lookS_miss 3 4 (.bool false) (g := bav) (A := seenA (seen ++ [now.bits])) (seenA_look hm) rfl rfl rfl (by kernel_rfl) (by kernel_rfl)) ?_ <;> refine AL.nil ?_) | refine AW.jf ?_ | refine AW.go ?_ | fail)
        have hlen : ((kvW bav (seenA (seen ++ [now.bits]))).length : Int) = ((seen ++ [now.bits]).length : Nat) := by rw [kvW_length]; unfold seenA; rw [lM]
        repeat' (first | (refine xS 10 1 ?_; refine AL.d (AOp.len_map (i := 3) (kd := .string) (e := 4) rfl rfl (by kernel_rfl)) ?_; refine xN 1 ?_) | refine AW.jj (fun hb => ?_) (fun hb => ?_) | refine AW.go ?_ | fail)
        · rw [hlen] at hb
          have hb : 5000 < (seen ++ [now.bits]).length := by have := of_decide_eq_true hb; omega
          repeat' (first | (refine xS 11 2 ?_; refine AL.d (AOp.fr 5) ?_; refine AL.sl 8 ?_; refine AL.nil ?_) | (refine AW.r 12 ?_; refine AL.d (AOp.lw 2) ?_; refine AL.sl 1 ?_; refine xN 1 ?_) | fail)
          obtain ⟨k1_, k2_, k3_, k4_, k5_, k6_, k7_, k8_, k9_, k10_, k11_, k12_⟩ := sm2.ok
          exact AW.retc (vs := [.st [.str now.nm, .int .i64 now.ar, .osl now.hb L L], .bool false]) (.cell 1 rfl rfl (by kernel_rfl) (.tmp rfl .nil)) (.cons _ (.cons _ (.cons _ (.cons _ (.cons_cons _ (.cons _ (List.Sublist.refl _))))))) (hret false { s2 with long := true } ⟨smm.N, smm.base, smm.ts, smm.ns, smm.vs, ⟨k1_, k2_, k3_, k4_, k5_, k6_, k7_, k8_, k9_, k10_, k11_, k12_⟩⟩ (hJ.none1 h9 hM hne2 (.inr hb)))
        · rw [hlen] at hb
          have hb : (seen ++ [now.bits]).length ≤ 5000 := by have := of_decide_eq_false hb; omega
          obtain ⟨mz', hlt, hJ'⟩ := hJ.next9 h9 hL hM hne2 (by rw [← hbit]; exact hm) hb
          repeat' (first | (refine AW.r 13 ?_; refine AL.d (AOp.lw 0) ?_; refine AL.sl 2 ?_; refine AL.nil ?_) | refine AW.go ?_ | fail)
          refine AW.drop (ah' := .box b4 zTb :: .box b6 (.st [.str out.nm, .int .i64 out.ar, .osl out.hb L L]) :: .map m7 (kvW bav (seenA (seen ++ [now.bits]))) g2 :: .box b (.st [.st [.int .i64 f.Kind, .int .i64 f.Arity, .str f.Name, strs f.Vars, strs f.Args, .sl (f.Kids.map GFml.av)], .sl (kb.map fun b => .ref b 0), .bool m.kn, .bool m.fr, .bool m.dn, .bool m.nn, m.nav, m.tab]) :: .row out.hb (out.bits.map bav) :: hH bw s2 k2) (.cons _ (.cons_cons _ (.cons_cons _ (.cons_cons _ (.cons_cons _ (.cons_cons _ (.cons _ (List.Sublist.refl _)))))))) ?_
          exact AW.again_keep mz' [0, 1, 4, 6, 7] hlt ⟨out, seen ++ [now.bits], g2, s2, k2, rfl, rfl, hnm2.trans hnm, smm, kb2, kff, hk2, by rw [hbit]; exact hJ'⟩
    · have h8 : f.Kind = 8 := by have : ¬ f.Kind = 9 := by simpa using hb
                                 omega
      obtain ⟨mz', hlt, hJ', hse⟩ := hJ.next8 h8 hL (hmono h8) hne2
      subst hse
      repeat' (first | (refine AW.r 13 ?_; refine AL.d (AOp.lw 0) ?_; refine AL.sl 2 ?_; refine AL.nil ?_) | refine AW.go ?_ | fail)
      refine AW.drop (ah' := .box b4 zTb :: .box b6 (.st [.str out.nm, .int .i64 out.ar, .osl out.hb L L]) :: .map m7 (kvW bav (seenA [])) g :: .box b (.st [.st [.int .i64 f.Kind, .int .i64 f.Arity, .str f.Name, strs f.Vars, strs f.Args, .sl (f.Kids.map GFml.av)], .sl (kb.map fun b => .ref b 0), .bool m.kn, .bool m.fr, .bool m.dn, .bool m.nn, m.nav, m.tab]) :: .row out.hb (out.bits.map bav) :: hH bw s2 k2) (.cons _ (.cons_cons _ (.cons_cons _ (.cons_cons _ (.cons_cons _ (.cons_cons _ (.cons _ (List.Sublist.refl _)))))))) ?_
      exact AW.again_keep mz' [0, 1, 4, 6, 7] hlt ⟨out, [], g, s2, k2, rfl, rfl, hnm2.trans hnm, smm, kb2, kff, hk2, by rw [hbit]; exact hJ'⟩
theorem perm_mid3 {α : Type} (b t : α) (A R : List α) : ((b :: t :: A) ++ R).Perm (t :: (A ++ b :: R)) := by
 classical
 rw [List.perm_iff_count]
 intro x
 simp only [List.count_cons, List.count_append, List.cons_append]
 omega
theorem w_pointN (bw N M : Nat) (n k : NT) (s : WS) (K : NT → Prop) (L : Nat) (hkid : n.kids[0]? = some k) (hN : s.N = N) (hL : L = N ^ n.f.Vars.length) (hL2 : L ≤ 4096) (hkd : n.f.Kind = 8 ∨ n.f.Kind = 9) (hM : 5001 < M) (hs : s.Ok)
  (hvl : n.f.Vars.length ≤ 1000) (hn : s.ns.length + n.f.Vars.length ≤ 100000) (ht : s.ts.length + 1 ≤ 10000) (hk : K k) (hmono : n.f.Kind = 8 → SM (stg N M n.f s.T s.V))
  (H : ∀ now : TE, now.nm = n.f.Name → now.bits.length = L → ∀ i, i < L → HoldsAt bw K (s.push none 0 [] now) k n.f.Vars (tup s.N n.f.Vars.length i) (semH N M n.f.Kids (s.T ++ [(n.f.Name, now.bits)]) (s.V ++ n.f.Vars.zip (tup N n.f.Vars.length i)))) :
  Tri Tryz.prog 195 [.ref bw 0, .ref n.b 0] (hH bw s n)
   (fun r h => ∃ (s' : WS) (k' : NT) (t : TE) (B : Bool), r = .ret (.tup [t.av, .bool B]) ∧ h = t.row :: hH bw s' (n.put 0 k') ∧ Same s s' ∧ k'.b = k.b ∧ k'.f = k.f ∧ K k' ∧ t.bits.length = L ∧ fixO N M n.f s.T s.V = if B then some t.bits else none) := by
 obtain ⟨rest, p1, p2⟩ := hH_kid bw s hkid
 have hp := w_point bw N M n.b n.f n.f n.m (n.kids.map NT.b) k s K L hN hL hL2 hkd (by rw [List.getElem?_map, hkid]; rfl) hM hs hvl hn ht hk hmono H
 refine Tri.reorder (hp.behind rest) (p1.trans List.perm_middle) ?_
 rintro x h ⟨_, ⟨s', k', t, B, rfl, rfl, h1, h2, h3, h4, h5, h6⟩, rfl⟩
 exact ⟨_, ⟨s', k', t, B, rfl, rfl, h1, h2, h3, h4, h5, h6⟩, (perm_mid3 _ _ _ _).trans ((p2 s' k' h2).cons _)⟩
theorem Vals_H (bw : Nat) (s : WS) (hs : s.Ok) (n : NT) (names : List ByteArray) (hl : names.length ≤ 100000) : Tri Tryz.prog 176 [.ref bw 0, strs names] (hH bw s n) (D (ints (names.map (val s.V))) (hH bw s n)) :=
 (w_Values bw s hs names hl).aroundD [n.bx] n.rest
theorem val_in {s : WS} (hs : s.Ok) (l : List ByteArray) : ∀ x ∈ l.map (val s.V), 0 ≤ x ∧ x < s.N := by
 intro x hx
 obtain ⟨v, _, rfl⟩ := List.mem_map.1 hx
 exact val_bd (by have := hs.n1; omega) s.ns s.vs hs.v4 v
theorem shaped_fix {f : GFml} (h : shapedP f = true) (h8 : f.Kind = 8 ∨ f.Kind = 9) : f.Args.length = f.Vars.length ∧ f.Vars.length ≤ 12 := by
 simp only [shapedP, shp3, bA, dT] at h
 have h1 := h.2.2
 have h2 := h.2.1.2.1.2
 rcases h8 with e | e <;> (rw [e] at h1 h2; simp [rulesP] at h1 h2; exact ⟨h1.symm, by omega⟩)
theorem perm_t {α : Type} (t b : α) (W R : List α) : (b :: (W ++ (t :: R))).Perm (t :: b :: (W ++ R)) := by
 classical
 rw [List.perm_iff_count]
 intro x
 simp only [List.count_cons, List.count_append]
 omega
theorem w_fixed (bw N M : Nat) (T0 : TT) (n k : NT) (s : WS) (x : GFml) (hkid : n.kids[0]? = some k) (hkids : n.f.Kids = [x]) (hN : s.N = N) (hT0 : s.T.take s.base = T0) (hbs : s.base ≤ s.ts.length) (hL2 : N ^ n.f.Vars.length ≤ 4096) (hkd : n.f.Kind = 8 ∨ n.f.Kind = 9) (hM : 5001 < M) (hs : s.Ok)
  (hx : x.Ok) (hnd : ndF x ≤ 40000) (hsh : shsF n.f = true) (hn : s.ns.length + n.f.Vars.length ≤ 100000) (ht : s.ts.length + 1 ≤ 10000) (hK : KOk N M T0 n) (hmono : n.f.Kind = 8 → SM (stg N M n.f s.T s.V))
  (H : ∀ now : TE, now.nm = n.f.Name → now.bits.length = N ^ n.f.Vars.length → ∀ i, i < N ^ n.f.Vars.length → HoldsAt bw (KOk N M T0) (s.push none 0 [] now) k n.f.Vars (tup s.N n.f.Vars.length i) (semH N M n.f.Kids (s.T ++ [(n.f.Name, now.bits)]) (s.V ++ n.f.Vars.zip (tup N n.f.Vars.length i)))) :
  Tri Tryz.prog 179 [.ref bw 0, .ref n.b 0] (hH bw s n) (HPost bw s n (KOk N M T0) (.bool (sem N M n.f s.T s.V)) []) := by
 subst hN
 have hsp : shapedP n.f = true := by rw [shsF_eq, bA] at hsh; exact hsh.2
 have hshx : shsF x = true := by have := shsF_kids hsh; rw [hkids, shsFs, shsFs] at this; simpa using this
 obtain ⟨hal, hvl⟩ := shaped_fix hsp hkd
 have hVal := Vals_H bw s hs n n.f.Args (by omega)
 have hval := val_in hs n.f.Args
 have hR := ref_rank3 s.N ⟨hs.n1, hs.n2⟩ (n.f.Args.map (val s.V)) (by rw [lM]; omega) hval (by rw [lM, hal]; exact hL2)
 have hRb := rankI_bd hs.n1 (n.f.Args.map (val s.V)) 0 0 hval (Int.le_refl _) (by simp)
 rw [Nat.zero_add, lM, hal] at hRb
 have hsem := sem_fix s.N M n.f s.T s.V hkd
 rw [hsem]
 obtain ⟨r, hr⟩ : ∃ r, r = rankI s.N (n.f.Args.map (val s.V)) 0 := ⟨_, rfl⟩
 rw [← hr] at hR hRb ⊢
 have hAl := w_alone bw s.N M T0 n s x hs hbs hkids hx hnd hshx (by omega) (by rw [KOk_eq] at hK; exact hK.1)
 have hKk := KOkL_mem (by rw [KOk_eq] at hK; exact hK.2.2) k (lG hkid)
 have hP := fun m' => w_pointN bw s.N M (n.setm m') k s (KOk s.N M T0) (s.N ^ n.f.Vars.length) hkid rfl rfl hL2 hkd hM hs (by show n.f.Vars.length ≤ 1000; omega) hn ht hKk hmono H
 refine Tri.enter 78 Tryz.func179 rfl rfl rfl rfl fun Fr w0 => ?_
 repeat' (first | refine AW.re 0 1 ?_ | (refine AW.dq 1 ?_; refine AQ.es 2 ?_; refine AQ.p rfl (AOp.fr 0) ?_; refine AQ.p rfl (AOp.ll 1) ?_; refine AQ.es 3 ?_; refine AQ.p rfl (AOp.fr 0) ?_; refine AQ.p rfl (AOp.fr 4) ?_; refine AQ.p rfl (AOp.ll 0) ?_; refine AQ.p rfl (AOp.call rfl rfl hVal) ?_; refine AQ.p rfl (AOp.call rfl rfl (hR.pure _)) ?_; refine AQ.es 1 ?_; refine AQ.nil ?_) | refine AW.go ?_ | fail)
 repeat' (first | (refine xS 2 2 ?_; (refine AL.callQ rfl rfl hAl rfl ?_ ?_; rotate_left; rintro _ _ ⟨_, _, e, _⟩; cases e; rintro _ _ ⟨B, m', e, rfl, hm1, hm2, hm3, hm4, hm5⟩; injection e with e; subst e) <;> refine AL.es 1 ?_ <;> refine AL.nil ?_) | refine AW.jj (fun hb => ?_) (fun hb => ?_) | fail)
 ·have hK1 : KOk s.N M T0 (n.setm m') := by rw [KOk_eq] at hK ⊢; exact ⟨hm1, hK.2⟩
  have hP' := hP m'
  repeat' (first | (refine xS 3 2 ?_; (refine AL.callQ rfl rfl hP' rfl ?_ ?_; rotate_left; rintro _ _ ⟨_, _, _, _, e, _⟩; cases e; rintro _ _ ⟨s2, k2, t, Bp, e, rfl, sm, kb2, kf2, hk2, htl, hfx⟩; injection e with e; subst e) <;> refine AL.es 3 ?_ <;> refine AL.alloc_store (by kernel_rfl) rfl rfl rfl rfl ?_ <;> refine AL.es 1 ?_ <;> refine AL.nil ?_) | refine AW.go ?_ | fail)
  have hfx : fixO s.N M n.f s.T s.V = if Bp then some t.bits else none := hfx
  obtain ⟨bb, hbb⟩ := get_lt (show r.toNat < t.bits.length by rw [htl]; omega)
  have hbb' : (t.bits.map bav)[r.toNat]? = some (bav bb) := map_get hbb
  rw [hfx]
  cases Bp with
  | false =>
   repeat' (first | (refine xS 4 2 ?_; refine AL.gs ?_; refine AL.gs ?_; refine AL.es 1 ?_; refine AL.gs ?_; refine AL.gs ?_; refine xN 2 ?_) | fail)
   exact AW.ret_drop rfl (List.sublist_cons_self _ _) ⟨rfl, s2, (n.setm m').put 0 k2, rfl, sm, rfl, rfl, KOk_put hK1 hkid kf2 hk2⟩
  | true =>
   repeat' (first | (refine xS 4 2 ?_; ((refine AL.gd ?_; (refine AL.d AOp.fa ?_))) <;> ((refine AL.gd ?_; (refine AL.d AOp.la ?_))) <;> refine AL.es 1 ?_ <;> ((refine AL.gd ?_; refine AL.d (AOp.index_osl rfl rfl (by omega) (by omega) (by kernel_rfl)) ?_)) <;> ((refine AL.gd ?_; (refine AL.d (AOp.load_cell 0 rfl rfl hbb' rfl (by kernel_rfl)) ?_))) <;> refine AL.es 2 ?_ <;> refine AL.nil ?_) | fail)
   refine AW.ret_drop rfl (List.sublist_cons_self _ _) ⟨?_, s2, (n.setm m').put 0 k2, rfl, sm, rfl, rfl, KOk_put hK1 hkid kf2 hk2⟩
   simp only [if_true, List.getD_eq_getElem?_getD, hbb]; rfl
 ·have hB : B = true := by revert hb; cases B <;> simp
  obtain ⟨hfr, hA⟩ := hm5 hB
  have hfA : fixO s.N M n.f s.T s.V = fixO s.N M n.f T0 [] := by rw [alone_fixO hsh hA, hT0]
  have hmm : mOk s.N M T0 n.f m' := hm1
  have hK1 : KOk s.N M T0 (n.setm m') := by rw [KOk_eq] at hK ⊢; exact ⟨hm1, hK.2⟩
  refine AW.skip ?_
  refine AW.seq ?_
  refine AW.cut (fun af h => ∃ (s2 : WS) (kids2 : List NT) (fr nn : Bool) (names : List ByteArray) (t : TE), af = [(0, .ref bw 0), (1, .ref n.b 0), (5, .int .i64 r)] ∧ h = t.row :: .box n.b (nbox n.f (kids2.map NT.b) (.m2 fr names nn t)) :: (wH bw s2 ++ nownL kids2) ∧ Same s s2 ∧ KOk s.N M T0 (.mk n.b n.f (.m2 fr names nn t) kids2) ∧ (nn = false → t.bits.length = s.N ^ n.f.Vars.length) ∧ fixO s.N M n.f s.T s.V = if nn then none else some t.bits) ?_ ?_
  ·cases m' with
   | m0 => cases hm2
   | m1 fr names =>
    have hP' := hP (.m1 fr names)
    repeat' (first | (refine xS 5 2 ?_; refine AL.d (AOp.fr 9) ?_; refine AL.d (AOp.ll 0) ?_; refine xN 1 ?_) | refine AW.jt ?_ | refine AW.go ?_ | fail)
    repeat' (first | (refine xS 6 2 ?_; (refine AL.callQ rfl rfl hP' rfl ?_ ?_; rotate_left; rintro _ _ ⟨_, _, _, _, e, _⟩; cases e; rintro _ _ ⟨s2, k2, t, Bp, e, rfl, sm, kb2, kf2, hk2, htl, hfx⟩; injection e with e; subst e) <;> refine AL.es 3 ?_ <;> refine AL.alloc_store (by kernel_rfl) rfl rfl rfl rfl ?_ <;> refine AL.es 1 ?_ <;> refine AL.nil ?_) | fail)
    have hfx : fixO s.N M n.f s.T s.V = if Bp then some t.bits else none := hfx
    have hK2 := KOk_put hK1 hkid kf2 hk2
    refine AW.frame_eq rfl (show _ = t.row :: .box n.b (.st [.st [.int .i64 n.f.Kind, .int .i64 n.f.Arity, .str n.f.Name, strs n.f.Vars, strs n.f.Args, .sl (n.f.Kids.map GFml.av)], .sl (((n.kids.set 0 k2).map NT.b).map fun b => .ref b 0), .bool true, .bool fr, .bool false, .bool false, strs names, zTab]) :: (wH bw s2 ++ nownL (n.kids.set 0 k2)) from rfl) ?_
    repeat' (first | (refine xS 7 3 ?_; refine AL.d AOp.la ?_; refine AL.es 3 ?_; refine AL.d (AOp.fr 12) ?_; refine AL.sl 1 ?_; refine AL.es 1 ?_; refine AL.d (AOp.fr 10) ?_; refine AL.sl 1 ?_; refine AL.es 1 ?_; refine AL.d (AOp.fr 9) ?_; refine AL.sl 1 ?_; refine AL.nil ?_) | fail)
    refine AW.meet [0, 1, 5] ⟨s2, n.kids.set 0 k2, fr, !Bp, names, t, rfl, rfl, sm, ?_, fun _ => htl, by rw [hfx]; cases Bp <;> rfl⟩
    rw [KOk_eq] at hK2 ⊢
    refine ⟨⟨hmm, hfr, fun h8 => ⟨fun e => ?_, fun e => ?_⟩, fun h10 => ?_⟩, hK2.2⟩
    ·show fixO s.N M n.f T0 [] = some t.bits
     rw [← hfA, hfx]; cases Bp <;> simp_all
    ·show fixO s.N M n.f T0 [] = none
     rw [← hfA, hfx]; cases Bp <;> simp_all
    ·have h10 : n.f.Kind = 10 := h10
     omega
   | m2 fr names nn t =>
    refine AW.perm (perm_t t.row (n.setm (.m2 fr names nn t)).bx (wH bw s) (nownL n.kids)) ?_
    repeat' (first | (refine xS 5 2 ?_; refine AL.d (AOp.fr 9) ?_; refine AL.d (AOp.ll 1) ?_; refine xN 1 ?_) | refine AW.jf ?_ | refine AW.go ?_ | fail)
    refine AW.meet [0, 1, 5] ⟨s, n.kids, fr, nn, names, t, rfl, rfl, Same.refl hs, hK1, fun e => fixO_len ((hmm.2.2.1 hkd).1 e), ?_⟩
    rw [hfA]
    cases nn with
    | true => exact (hmm.2.2.1 hkd).2 rfl
    | false => exact (hmm.2.2.1 hkd).1 rfl
  ·rintro _ _ ⟨s2, kids2, fr, nn, names, t, rfl, rfl, sm, hK2, htl, hfx⟩
   rw [hfx]
   cases nn with
   | true =>
    repeat' (first | (refine xS 8 2 ?_; refine AL.d (AOp.fr 10) ?_; refine AL.d (AOp.ll 1) ?_; refine AL.es 2 ?_; refine AL.es 2 ?_; refine AL.gs ?_; refine AL.gs ?_; refine AL.gs ?_; refine AL.es 1 ?_; refine AL.gs ?_; refine AL.gs ?_; refine xN 2 ?_) | fail)
    refine AW.perm (perm_t t.row (NT.mk n.b n.f (.m2 fr names true t) kids2).bx (wH bw s2) (nownL kids2)).symm ?_
    exact AW.retv rfl ⟨rfl, s2, .mk n.b n.f (.m2 fr names true t) kids2, rfl, sm, rfl, rfl, hK2⟩
   | false =>
    obtain ⟨bb, hbb⟩ := get_lt (show r.toNat < t.bits.length by rw [htl rfl]; omega)
    have hbb' : (t.bits.map bav)[r.toNat]? = some (bav bb) := map_get hbb
    repeat' (first | (refine xS 8 2 ?_; refine AL.d (AOp.fr 10) ?_; refine AL.d (AOp.ll 1) ?_; refine AL.es 2 ?_; refine AL.es 2 ?_; ((refine AL.gd ?_; (refine AL.d (AOp.fr 12) ?_))) <;> ((refine AL.gd ?_; (refine AL.d (AOp.fr 2) ?_))) <;> ((refine AL.gd ?_; (refine AL.d (AOp.ll 1) ?_))) <;> refine AL.es 1 ?_ <;> ((refine AL.gd ?_; refine AL.d (AOp.index_osl rfl rfl (by omega) (by have := htl rfl; omega) (by kernel_rfl)) ?_)) <;> ((refine AL.gd ?_; (refine AL.d (AOp.load_cell 0 rfl rfl hbb' rfl (by kernel_rfl)) ?_))) <;> refine AL.es 2 ?_ <;> refine AL.nil ?_) | fail)
    refine AW.perm (perm_t t.row (NT.mk n.b n.f (.m2 fr names false t) kids2).bx (wH bw s2) (nownL kids2)).symm ?_
    refine AW.retv rfl ⟨?_, s2, .mk n.b n.f (.m2 fr names false t) kids2, rfl, sm, rfl, rfl, hK2⟩
    simp only [Bool.false_eq_true, if_false, List.getD_eq_getElem?_getD, hbb]; rfl
theorem bitV_falses (m : Nat) : bitV (falses m) = 0 := by
 induction m with
 | zero => rfl
 | succ m ih => unfold falses at ih ⊢; rw [List.replicate_succ, bitV, ih]; rfl
theorem gsR_hit {P : List Bool → Bool} {X : List Bool} (h : P X = true) : ∀ j, gsR P j X = true
 | 0 => by rw [gsR]; exact h
 | j + 1 => by rw [gsR, h, Bool.true_or]
theorem gsR_end {P : List Bool → Bool} {X : List Bool} (h : P X = false) (hi : (incB X).2 = false) : ∀ j, gsR P j X = false
 | 0 => by rw [gsR]; exact h
 | j + 1 => by rw [gsR, h, hi]; rfl
theorem w_guessed (bw N M : Nat) (n k : NT) (s : WS) (K : NT → Prop) (Kn : NT → Prop) (P : List Bool → Bool) (m : Nat) (hkid : n.kids[0]? = some k) (hN : s.N = N) (har : n.f.Arity = (n.f.Arity.toNat : Nat)) (ham : n.f.Arity.toNat ≤ 1000) (hm : m = N ^ n.f.Arity.toNat) (hm2 : m ≤ 16) (hs : s.Ok)
  (hn : s.ns.length ≤ 100000) (ht : s.ts.length + 1 ≤ 10000) (hk : K k) (hKn : ∀ k', k'.b = k.b → k'.f = k.f → K k' → Kn (n.put 0 k'))
  (H : ∀ now : TE, now.nm = n.f.Name → now.bits.length = m → HoldsAt bw K (s.push none 0 [] now) k [] [] (P now.bits)) :
  Tri Tryz.prog 181 [.ref bw 0, .ref n.b 0] (hH bw s n) (HPost bw s n Kn (.bool (gsR P (2 ^ m) (falses m))) []) := by
 subst hN
 have hT := ref_TableNew s.N n.f.Arity.toNat n.f.Name ⟨hs.n1, hs.n2⟩ (by omega) (by rw [← hm]; omega)
 rw [← hm, ← har] at hT
 have hs0 := hs
 obtain ⟨n1, n2, t1, t2, t3, _⟩ := hs0
 have hcl := tcells_len s.ts
 have hself : n.put 0 k = n := by
  cases n with
  | mk b f m kids =>
   show NT.mk b f m (kids.set 0 k) = _
   have h' : kids[0]? = some k := hkid
   rw [(set_of_mid h' k).2, ← (set_of_mid h' k).1]
 have hkx : ∀ k' : NT, k'.b = k.b → (((n.put 0 k').kids.map NT.b).map fun b => AV.ref b 0)[((0 : Nat) : Int).toNat]? = some (.ref k.b 0) := fun k' ha => by
  rw [List.getElem?_map, List.getElem?_map, show ((0 : Nat) : Int).toNat = 0 from rfl, NT.put_get hkid, ← ha]; rfl
 refine Tri.enter 84 Tryz.func181 rfl rfl rfl rfl fun Fr w0 => ?_
 repeat' (first | refine AW.re 0 1 ?_ | (refine xS 1 2 ?_; refine AL.d (AOp.fr 2) ?_; refine AL.d (AOp.ll 1) ?_; refine AL.d (AOp.len_val (by kernel_rfl) rfl) ?_; refine xN 1 ?_) | fail)
 refine AW.seq ?_
 refine AW.cut (fun af h => ∃ b6 ha, af = [(0, .ref bw 0), (1, .ref n.b 0), (5, .int .i64 s.ts.length), (6, .ref b6 0)] ∧ h = .box b6 (.st [.str n.f.Name, .int .i64 n.f.Arity, .osl ha m m]) :: .row ha (List.replicate m (.bool false)) :: hH bw s n) ?_ ?_
 ·repeat' (first | fail)
  refine AW.explore [] [14, 15, 16] rfl (by kernel_rfl) (by kernel_rfl) (by kernel_rfl) (by kernel_rfl) ?_
  refine AQE.ev rfl rfl rfl rfl ?_
  refine AQE.ev rfl rfl rfl rfl ?_
  first | refine AQE.op rfl AOp.fa rfl rfl ?_ | refine AQE.op rfl (AOp.fr 0) rfl rfl ?_
  refine AQE.op rfl (AOp.ll 1) rfl rfl ?_
  refine AQE.ev rfl rfl rfl rfl ?_
  refine AQE.ev rfl rfl rfl rfl ?_
  first | refine AQE.op rfl AOp.fa rfl rfl ?_ | refine AQE.op rfl (AOp.fr 0) rfl rfl ?_
  first | refine AQE.op rfl AOp.fa rfl rfl ?_ | refine AQE.op rfl (AOp.fr 2) rfl rfl ?_
  refine AQE.op rfl (AOp.ll 0) rfl rfl ?_
  refine AQE.ev rfl rfl rfl rfl ?_
  refine AQE.ev rfl rfl rfl rfl ?_
  first | refine AQE.op rfl AOp.fa rfl rfl ?_ | refine AQE.op rfl (AOp.fr 0) rfl rfl ?_
  first | refine AQE.op rfl AOp.fa rfl rfl ?_ | refine AQE.op rfl (AOp.fr 1) rfl rfl ?_
  refine AQE.op rfl (AOp.ll 0) rfl rfl ?_
  refine AQE.hole rfl rfl ?_
  refine AQE.hole rfl rfl ?_
  refine AQE.hole rfl rfl ?_
  refine AQE.nil ?_
  repeat' (first | refine AX.two (n := 2) 14 15 rfl ?_ ?_ | refine AX.one (n := 1) 14 rfl ?_ | refine AX.one (n := 1) 15 rfl ?_ | refine AX.one (n := 0) 16 rfl ?_ | (refine AXS.step (i := 14) rfl rfl rfl (AOp.call rfl rfl (hT.pureE _)) ?_ (by rintro _ _ ⟨_, ⟨_, e, _⟩, _⟩; cases e); rintro _ _ ⟨_, ⟨ha, e, rfl⟩, rfl⟩; injection e with e; subst e; dsimp only [sA, sB, sC, sD]) | (refine AXS.new (i := 15) rfl rfl rfl (AOp.alloc (t := 193) (z := zTb) (by kernel_rfl) rfl) (fun b6 => ?_); dsimp only [sA, sB, sC, sD]) | (refine AXS.at (q := 16) rfl rfl ?_; refine AXO.sl 0 (fun _ => ?_); dsimp only [sA, sB, sC, sD]) | (refine AXS.at (q := 16) rfl rfl ?_; refine AXO.sl 1 (fun _ => ?_); dsimp only [sA, sB, sC, sD]) | fail)
  all_goals refine AX.done_keep [0,1,5,6] ?_
  all_goals first
   | exact AW.meet [0, 1, 5, 6] ⟨b6, ha, rfl, rfl⟩
   | exact AW.perm (.swap _ _ _) (AW.meet [0, 1, 5, 6] ⟨b6, ha, rfl, rfl⟩)
 rintro _ _ ⟨b6, ha, rfl, rfl⟩
 repeat' (first | refine AW.go ?_ | fail)
 refine AW.prune [0, 1, 5, 6] (AW.loop (fun mz af h => ∃ (X : List Bool) (j : Nat) (s' : WS) (k' : NT), af = [(0, .ref bw 0), (1, .ref n.b 0), (5, .int .i64 s.ts.length), (6, .ref b6 0)] ∧
  h = .box b6 (.st [.str n.f.Name, .int .i64 n.f.Arity, .osl ha m m]) :: .row ha (X.map bav) :: hH bw s' (n.put 0 k') ∧ Same s s' ∧ k'.b = k.b ∧ k'.f = k.f ∧ K k' ∧ X.length = m ∧ gsR P (2 ^ m) (falses m) = gsR P j X ∧ 2 ^ m - bitV X ≤ j ∧ mz = 2 ^ m - bitV X) (2 ^ m) ⟨falses m, 2 ^ m, s, k, rfl, by rw [falses_map, hself], Same.refl hs, rfl, rfl, hk, falses_len m, rfl, Nat.sub_le _ _, by rw [bitV_falses, Nat.sub_zero]⟩ ?_)
 rintro mz af h ⟨X, j, s1, k1, rfl, rfl, sm, kb1, kf1, hk1, hXl, hgs, hj, rfl⟩
 obtain ⟨now, hnow⟩ : ∃ now : TE, now = ⟨n.f.Name, n.f.Arity, ha, X⟩ := ⟨_, rfl⟩
 have hr3 : ∀ y ∈ now.cells, y.size = 1 := by intro y hy; unfold TE.cells at hy; simp only [List.mem_cons, List.not_mem_nil, or_false] at hy; rcases hy with rfl | rfl | rfl <;> rfl
 have hcells : [AV.str n.f.Name, .int .i64 n.f.Arity, .osl ha m m] = now.cells := by rw [hnow]; unfold TE.cells; rw [hXl]
 have hrow : Own.row ha (X.map bav) = now.row := by rw [hnow]; rfl
 rw [hcells, hrow]
 refine AW.block ?_
 have hs1 := sm.ok
 obtain ⟨_, _, t1', t2', t3', _⟩ := sm.ok
 have hcl1 := tcells_len s1.ts
 repeat' (first | fail)
 repeat' (first | refine AW.go ?_ | fail)
 refine AW.explore [false, false, false, true, true] [4, 7, 10] rfl (by kernel_rfl) (by kernel_rfl) (by kernel_rfl) (by kernel_rfl) ?_
 refine AQE.ev rfl rfl rfl rfl ?_
 refine AQE.ev rfl rfl rfl rfl ?_
 refine AQE.ev rfl rfl rfl rfl ?_
 first | refine AQE.op rfl AOp.fa rfl rfl ?_ | refine AQE.op rfl (AOp.fr 2) rfl rfl ?_
 refine AQE.hole rfl rfl ?_
 refine AQE.op rfl (AOp.lw 0) rfl rfl ?_
 refine AQE.op rfl (AOp.lit (e := 193) (sz := 3) (by kernel_rfl) rfl rfl rfl (P_one rfl) (by decide)) rfl rfl ?_
 refine AQE.hole rfl rfl ?_
 refine AQE.ev rfl rfl rfl rfl ?_
 first | refine AQE.op rfl AOp.fa rfl rfl ?_ | refine AQE.op rfl (AOp.fr 2) rfl rfl ?_
 refine AQE.hole rfl rfl ?_
 refine AQE.nil ?_
 repeat' (first | refine AX.one (n := 2) 4 rfl ?_ | refine AX.one (n := 1) 7 rfl ?_ | refine AX.one (n := 0) 10 rfl ?_ | (refine AXS.det (i := 4) rfl rfl rfl (AOp.ll 0) ?_; dsimp only [sA, sB, sC, sD]) | (refine AXS.step (i := 7) rfl rfl rfl (AOp.append_bf 1 3 (o := s1.to) (n := s1.ts.length) (c := s1.tc) (us := tcells s1.ts) (tl := s1.tt) (ys := now.cells) (m := 1) (e := 193) (bytes := 48) rfl rfl (by omega) (by omega) t2' (SrcC.one (fs := now.cells) rfl hr3) rfl hr3 rfl (by omega) (by kernel_rfl) (by kernel_rfl) (by omega) (by omega)) ?_ (by rintro _ _ ⟨_, _, _, e, _⟩; cases e); rintro _ _ ⟨o, c, tl, e, rfl, q1, q2, q3⟩; injection e with e; subst e; dsimp only [sA, sB, sC, sD]) | (refine AXS.at (q := 10) rfl rfl ?_; refine AXO.sl 0 (fun _ => ?_); dsimp only [sA, sB, sC, sD]) | fail)
 all_goals refine AX.done_keep [0,1,5,6] ?_
 refine AW.perm (perm_push now.row (n.put 0 k1).bx _ _ (bfO s1.no (s1.ns.map AV.str ++ s1.nt)) (bfO s1.vo (s1.vs.map iav ++ s1.vt)) (s1.ts.map TE.row) (n.put 0 k1).rest [_]) ?_
 have ok1 := WS.push_ok (t := now) (o := o) (c := c) (tl := tl) hs1 (by have : now.cells.length = 3 := rfl; omega) q2 (by rw [sm.ts]; exact ht)
 refine AW.frame_eq rfl (show _ = .box b6 (.st now.cells) :: hH bw (s1.push o c tl now) (n.put 0 k1) from by unfold hH; rw [wH_push]; rfl) ?_
 have hHo := H now (by rw [hnow]) (by rw [hnow]; exact hXl) (s1.push o c tl now) k1 ok1 sm.N sm.base (by show s1.ts ++ [now] = s.ts ++ [now]; rw [sm.ts]) (by show s1.ns = s.ns ++ []; rw [sm.ns, List.append_nil]) (by show s1.vs = s.vs ++ []; rw [sm.vs, List.append_nil]) kb1 kf1 hk1
 have hbits : now.bits = X := by rw [hnow]
 rw [hbits] at hHo
 have hput : ∀ k', (n.put 0 k1).put 0 k' = n.put 0 k' := fun k' => by
  unfold NT.put; show NT.mk n.b n.f n.m ((n.kids.set 0 k1).set 0 k') = _; rw [List.set_set]
 have hHn := Tri.ahead (kidH (Y := []) (K' := fun n' => ∃ k', n' = n.put 0 k' ∧ k'.b = k.b ∧ k'.f = k.f ∧ K k') (NT.put_get hkid) hHo fun k' e1 e2 e3 => ⟨k', hput k', e1.trans kb1, e2.trans kf1, e3⟩) [.box b6 (.st now.cells)]
 rw [kb1] at hHn
 have hkx1 := hkx k1 kb1
 have hkx1' : (((n.put 0 k1).kids.map NT.b).map fun b => AV.ref b 0)[(0 : Int).toNat]? = some (.ref k.b 0) := hkx1
 repeat' (first | (refine xS 4 3 ?_; refine AL.d (AOp.fr 6) ?_; refine AL.d (AOp.ll 1) ?_; refine AL.d (iX hkx1') ?_; refine AL.d AOp.la ?_; (refine AL.callQ rfl rfl hHn rfl ?_ ?_; rotate_left; rintro _ _ ⟨_, ⟨e, _⟩, _⟩; cases e; rintro _ _ ⟨_, ⟨e, s3, n3, rfl, sm3, _, _, k3, rfl, kb3, kf3, hk3⟩, rfl⟩; injection e with e; subst e) <;> refine AL.es 1 ?_ <;> refine AL.nil ?_) | refine AW.go ?_ | fail)
 have hts : s3.ts = s.ts ++ [now] := by rw [sm3.ts]; show s1.ts ++ [now] = _; rw [sm.ts]
 have hc3 : s.ts.length ≤ s3.tc := by
  have := sm3.ok.t1; rw [hts, lA, List.length_singleton] at this; omega
 repeat' (first | (refine xS 5 3 ?_; refine AL.d (AOp.fr 2) ?_; refine AL.d (AOp.ll 2) ?_; refine AL.es 1 ?_; refine AL.d (AOp.cut_bf (sz := 3) (k := s.ts.length) (by kernel_rfl) rfl (bndIs.some rfl rfl) hc3) ?_; refine AL.es 1 ?_; refine AL.d (AOp.fr 2) ?_; refine AL.sl 2 ?_; refine AL.nil ?_) | refine AW.go ?_ | fail)
 refine AW.perm (hH_pop bw hts (n.put 0 k3) [_]) ?_
 have sm4 : Same s (s3.pop s.ts now) := ⟨sm3.N.trans sm.N, sm3.base.trans sm.base, rfl, sm3.ns.trans sm.ns, sm3.vs.trans sm.vs, WS.pop_ok sm3.ok hts⟩
 generalize s3.pop s.ts now = s4 at *
 refine AW.frame_eq rfl (show _ = .box b6 (.st [.str n.f.Name, .int .i64 n.f.Arity, .osl ha m m]) :: .row ha (X.map bav) :: hH bw s4 (n.put 0 k3) from by rw [hcells, hrow]; rfl) ?_
 cases hP : P X with
 | true =>
  repeat' (first | refine AW.re 6 1 ?_ | refine AW.re 7 1 ?_ | refine AW.jt ?_ | fail)
  exact AW.ret_drop rfl (.cons _ (.cons _ (List.Sublist.refl _))) ⟨by rw [hgs, gsR_hit hP]; rfl, s4, n.put 0 k3, rfl, sm4, rfl, rfl, hKn k3 kb3 kf3 hk3⟩
 | false =>
  repeat' (first | refine AW.re 6 1 ?_ | refine AW.re 8 1 ?_ | refine AW.jf ?_ | refine AW.go ?_ | fail)
  refine AW.prune [0, 1, 5, 6, 8] (AW.loop (fun mz af h => ∃ i : Nat, i ≤ m ∧ mz = m - i ∧ af = [(0, .ref bw 0), (1, .ref n.b 0), (5, .int .i64 s.ts.length), (6, .ref b6 0), (8, .int .i64 i)] ∧ h = .box b6 (.st [.str n.f.Name, .int .i64 n.f.Arity, .osl ha m m]) :: .row ha ((List.replicate i false ++ X.drop i).map bav) :: hH bw s4 (n.put 0 k3) ∧ incB X = (List.replicate i false ++ (incB (X.drop i)).1, (incB (X.drop i)).2)) m ⟨0, Nat.zero_le _, rfl, rfl, rfl, rfl⟩ ?_)
  rintro mz af h ⟨i, hi, rfl, rfl, rfl, he⟩
  refine AW.seq ?_
  by_cases hlt : i < m
  ·obtain ⟨bb, hbb⟩ := get_lt (show i < X.length by omega)
   have hd := drop_cons hbb
   have hrw : (List.replicate i false ++ X.drop i).map bav = List.replicate i (bav false) ++ bav bb :: (X.drop (i + 1)).map bav := by rw [hd]; simp
   have hrl : (List.replicate i (bav false)).length = i := by simp
   have hget : (List.replicate i (bav false) ++ bav bb :: (X.drop (i + 1)).map bav)[((i : Nat) : Int).toNat]? = some (bav bb) := by
    rw [Int.toNat_natCast, List.getElem?_append_right (by omega), hrl, Nat.sub_self]; rfl
   have hsl : ((i : Nat) : Int).toNat < (List.replicate i (bav false) ++ bav bb :: (X.drop (i + 1)).map bav).length := by rw [lA, hrl, List.length_cons]; omega
   rw [hrw]
   rw [hd] at he
   cases bb with
   | true =>
    rw [incB] at he
    repeat' (first | (refine xS 9 1 ?_; refine AL.d (AOp.fr 2) ?_; refine AL.d (AOp.ll 0) ?_; refine AL.es 3 ?_; ((refine AL.gx (fun hb => ?_) (fun hb => ?_) <;> first | (refine AL.gd ?_; (refine AL.d (AOp.fr 2) ?_)) | refine AL.gs ?_)) <;> (first | (refine AL.gd ?_; (refine AL.d (AOp.ll 0) ?_)) | refine AL.gs ?_) <;> refine AL.es 1 ?_ <;> (first | (refine AL.gd ?_; refine AL.d (AOp.index_osl rfl rfl (by omega) (by omega) (by kernel_rfl)) ?_) | refine AL.gs ?_) <;> (first | (refine AL.gd ?_; (refine AL.d (AOp.load_cell 1 rfl rfl hget rfl (by kernel_rfl)) ?_)) | refine AL.gs ?_) <;> refine AL.es 1 ?_ <;> refine AL.nil ?_) | (refine AW.r 10 ?_; refine AL.d (AOp.fr 2) ?_; refine AL.d (AOp.ll 0) ?_; refine AL.es 1 ?_; refine AL.d (AOp.index_osl rfl rfl (by omega) (by omega) (by kernel_rfl)) ?_; refine AL.store_cell 1 rfl rfl rfl hsl rfl rfl (by kernel_rfl) ?_; refine AL.nil ?_) | (refine xS 11 1 ?_; refine AL.d AOp.ad ?_; refine xN 1 ?_) | refine AW.jt ?_ | refine AW.jf ?_ | refine AW.go ?_ | fail)
    all_goals try (exfalso; simp only [dT, dF, lM] at *; omega)
    refine AW.again_keep (m - (i + 1)) [0, 1, 5, 6, 8] (by omega) ⟨i + 1, hlt, rfl, rfl, ?_, ?_⟩
    ·show [Own.box b6 _, .row ha ((List.replicate i (bav false) ++ bav true :: (X.drop (i + 1)).map bav).set ((i : Nat) : Int).toNat (bav false))] ++ hH bw s4 (n.put 0 k3) = _
     rw [Int.toNat_natCast, set_mid _ _ _ _ _ hrl, List.replicate_succ']; simp
    ·rw [he, List.replicate_succ']; simp
   | false =>
    rw [incB] at he
    repeat' (first | (refine xS 9 1 ?_; refine AL.d (AOp.fr 2) ?_; refine AL.d (AOp.ll 0) ?_; refine AL.es 3 ?_; ((refine AL.gx (fun hb => ?_) (fun hb => ?_) <;> first | (refine AL.gd ?_; (refine AL.d (AOp.fr 2) ?_)) | refine AL.gs ?_)) <;> (first | (refine AL.gd ?_; (refine AL.d (AOp.ll 0) ?_)) | refine AL.gs ?_) <;> refine AL.es 1 ?_ <;> (first | (refine AL.gd ?_; refine AL.d (AOp.index_osl rfl rfl (by omega) (by omega) (by kernel_rfl)) ?_) | refine AL.gs ?_) <;> (first | (refine AL.gd ?_; (refine AL.d (AOp.load_cell 1 rfl rfl hget rfl (by kernel_rfl)) ?_)) | refine AL.gs ?_) <;> refine AL.es 1 ?_ <;> refine AL.nil ?_) | (refine xS 12 1 ?_; refine AL.d (AOp.fr 2) ?_; refine AL.d (AOp.ll 0) ?_; refine xN 2 ?_) | refine AW.jf ?_ | refine AW.jj (fun hb => ?_) (fun hb => ?_) | refine AW.go ?_ | fail)
    all_goals try (exfalso; simp only [dT, dF, lM, bne_iff_ne, ne_eq, bne_eq_false_iff_eq, beq_iff_eq, beq_eq_false_iff_ne] at *; omega)
    repeat' (first | (refine AW.r 14 ?_; refine AL.d (AOp.fr 2) ?_; refine AL.d (AOp.ll 0) ?_; refine AL.es 1 ?_; refine AL.d (AOp.index_osl rfl rfl (by omega) (by omega) (by kernel_rfl)) ?_; refine AL.store_cell 1 rfl rfl rfl hsl rfl rfl (by kernel_rfl) ?_; refine AL.nil ?_) | refine AW.go ?_ | fail)
    have hv := incB_val X (by rw [he])
    have hl := bitV_lt (incB X).1
    rw [incB_len, hXl] at hl
    obtain ⟨j', rfl⟩ : ∃ j', j = j' + 1 := ⟨j - 1, by omega⟩
    refine AW.again_keep (2 ^ m - bitV (incB X).1) [0, 1, 5, 6] (by omega) ⟨(incB X).1, j', s4, k3, rfl, ?_, sm4, kb3, kf3, hk3, by rw [incB_len, hXl], ?_, by omega, rfl⟩
    ·show [Own.box b6 _, .row ha ((List.replicate i (bav false) ++ bav false :: (X.drop (i + 1)).map bav).set ((i : Nat) : Int).toNat (bav true))] ++ hH bw s4 (n.put 0 k3) = _
     rw [Int.toNat_natCast, set_mid _ _ _ _ _ hrl, he]; simp [hcells]
    ·rw [hgs, gsR, hP, he]; simp
  ·obtain rfl : i = m := by omega
   rw [List.drop_eq_nil_of_le (by omega)] at he ⊢
   repeat' (first | (refine xS 9 1 ?_; refine AL.d (AOp.fr 2) ?_; refine AL.d (AOp.ll 0) ?_; refine AL.es 3 ?_; ((refine AL.gx (fun hb => ?_) (fun hb => ?_) <;> first | (refine AL.gd ?_; (refine AL.d (AOp.fr 2) ?_)) | refine AL.gs ?_)) <;> (first | (refine AL.gd ?_; (refine AL.d (AOp.ll 0) ?_)) | refine AL.gs ?_) <;> refine AL.es 1 ?_ <;> (first | (refine AL.gd ?_; (((exfalso; simp only [dT, dF, lM, bne_iff_ne, ne_eq, bne_eq_false_iff_eq, beq_iff_eq, beq_eq_false_iff_ne] at *; omega)))) | refine AL.gs ?_) <;> (refine AL.gs ?_) <;> refine AL.es 1 ?_ <;> refine AL.nil ?_) | (refine xS 12 1 ?_; refine AL.d (AOp.fr 2) ?_; refine AL.d (AOp.ll 0) ?_; refine xN 2 ?_) | refine AW.jf ?_ | refine AW.jj (fun hb => ?_) (fun hb => ?_) | refine AW.go ?_ | fail)
   all_goals try (exfalso; simp at hb; done)
   all_goals try (exfalso; simp only [dT, dF, lM, bne_iff_ne, ne_eq, bne_eq_false_iff_eq, beq_iff_eq, beq_eq_false_iff_ne] at *; omega)
   repeat' (first | refine AW.re 13 1 ?_ | fail)
   exact AW.ret_drop rfl (.cons _ (.cons _ (List.Sublist.refl _))) ⟨by rw [hgs, gsR_end hP (by rw [he]; rfl)]; rfl, s4, n.put 0 k3, rfl, sm4, rfl, rfl, hKn k3 kb3 kf3 hk3⟩
end Go.Proofs.YtlpndgodkkndnaaGreatDoor
