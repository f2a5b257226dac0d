/- Contracts of the functions, part 5. -/
import Derived.Test.YtdedkpfbfklgbaaGreatA4
import Derived.Test.YtdedkpfbfklgbaaGreatA4
import Derived.Test.YtdedkpfbfklgbaaGreatS2
import Derived.Test.YtdedkpfbfklgbaaGreatA1
import Derived.Test.YtdedkpfbfklgbaaGreatS3
import Derived.Test.YtdedkpfbfklgbaaGreatA3
import Derived.Test.YtdedkpfbfklgbaaGreatProg
namespace Go.Proofs.YtdedkpfbfklgbaaGreat
open Go.RowKit Go.SX
set_option maxRecDepth 100000
set_option maxHeartbeats 4000000
set_option linter.unusedVariables false
set_option linter.unusedSimpArgs false
variable {X : RG} {F R : Nat} {sig : ByteArray → Option Nat} {B : Blk} {m : MS} {bk : RK}
theorem setF_setF (m : MS) (f : Int) (a b : Bool) : (m.setF f a).setF f b = m.setF f b := by simp [MS.setF]
theorem take_dec {x y : Bool} {a b : List Bool} {i : Nat} (hx : a[i]? = some x) (hy : b[i]? = some y) : decide (a.take (i + 1) = b.take (i + 1)) = (decide (a.take i = b.take i) && decide (x = y)) := by
  rw [List.take_add_one, List.take_add_one, hx, hy]
  have hl : (a.take i).length = (b.take i).length := by
    have := (List.getElem?_eq_some_iff.1 hx).1
    have := (List.getElem?_eq_some_iff.1 hy).1
    simp; omega
  rw [Bool.eq_iff_iff, decide_eq_true_iff, Bool.and_eq_true, decide_eq_true_iff, decide_eq_true_iff]
  constructor
  · intro h
    obtain ⟨h1, h2⟩ := List.append_inj h hl
    exact ⟨h1, by simpa using h2⟩
  · rintro ⟨h1, h2⟩
    rw [h1, h2]
theorem arr_14 (hX : RSt X F R sig) (hm : RFit X F R sig B m bk) (s : GStmt) (hs : Fit F R sig s) (hk : s.Kind = 14) {n n2 : Int} (hA : arOf X.c.Arrays s.Name = some n) (hA2 : arOf X.c.Arrays s.From = some n2) :
    Tri Tryz.prog 127 [.ref X.mb 0, s.st] (m.rah X bk 0) (APost X F R sig B (prim X.n s m)) := by
  have hf := hs.f (by rw [hk]; rfl)
  have hfl := hm.mf.flen
  have ha := hX.sg _ _ hA
  have ha2 := hX.sg _ _ hA2
  have hfr := hs.frm (by rw [hk]; rfl)
  obtain ⟨hin, hlen, hle⟩ := hm.mf.sig _ _ ha
  obtain ⟨hin2, hlen2, hle2⟩ := hm.mf.sig _ _ ha2
  rw [ha, ha2] at hfr
  have hnn : n2.toNat = n.toNat := Option.some.inj hfr
  simp only [RG.E] at hlen hle hlen2 hle2
  rw [hnn] at hlen2
  have hll : (m.rels s.From).length = (m.rels s.Name).length := by omega
  have hal := hX.al
  obtain ⟨j, a, b, f1, f2, f3, f4, f5⟩ := arr_find hX hA
  obtain ⟨j2, a2, b', g1, g2, g3, g4, g5⟩ := arr_find hX hA2
  have hF := ref_find X.c.Arrays s.Name (by omega)
  have hF2 := ref_find X.c.Arrays s.From (by omega)
  rw [f1] at hF
  rw [g1] at hF2
  have hAb : (X.A.map fun b => (⟨b, 0, none⟩ : Addr)) = some ⟨b, 0, none⟩ := by rw [f4]; rfl
  have hres : prim X.n s m = m.setF s.F (decide (m.rels s.Name = m.rels s.From)) := by simp [prim, hk]
  have hfit := hm.flag s.F (decide (m.rels s.Name = m.rels s.From))
  rw [hres]
  have hset := fun v b' => (rah_setflag X (m.setF s.F v) bk 0 s.F b').trans (by rw [setF_setF])
  have hset0 := fun b' => rah_setflag X m bk 0 s.F b'
  obtain ⟨kd, sf, sg, sr, sn, snm, sfr, slit, sregs, sbody, sels⟩ := s
  simp only at *
  subst hk
  refine Tri.enter 143 Tryz.func127 rfl rfl rfl rfl fun Fr w0 => ?_
  repeat' (first | (refine AW.r 0 ?_ <;> (first | refine AL.d (AOp.box_ro (v := .st [.int .i64 14, .int .i64 sf, .int .i64 sg, .int .i64 sr, .int .i64 sn, .str snm, .str sfr, slit.av, ints sregs, .sl (sbody.map GStmt.av), .sl (sels.map GStmt.av)]) rfl rfl) ?_ | refine AL.d (AOp.box_ro rfl rfl) ?_) <;> refine AL.nil ?_) | (refine AW.dq 1 ?_ <;> refine AQ.es 2 ?_ <;> (first | refine AQ.p rfl AOp.fa ?_ | refine AQ.p rfl (AOp.fr 0) ?_) <;> (first | refine AQ.p rfl AOp.fa ?_ | refine AQ.p rfl (AOp.fr 2) ?_) <;> (first | refine AQ.p rfl AOp.la ?_ | refine AQ.p rfl (AOp.ll 0) ?_) <;> (first | refine AQ.p rfl AOp.fa ?_ | refine AQ.p rfl (AOp.fr 5) ?_) <;> (first | refine AQ.p rfl AOp.la ?_ | refine AQ.p rfl (AOp.ll 0) ?_) <;> (first | refine AQ.p rfl (AOp.call rfl rfl (hF.pure _)) ?_ | refine AQ.p rfl (AOp.call rfl rfl (hF2.pure _)) ?_) <;> refine AQ.es 2 ?_ <;> (first | refine AQ.p rfl AOp.fa ?_ | refine AQ.p rfl (AOp.fr 0) ?_) <;> (first | refine AQ.p rfl AOp.fa ?_ | refine AQ.p rfl (AOp.fr 2) ?_) <;> (first | refine AQ.p rfl AOp.la ?_ | refine AQ.p rfl (AOp.ll 0) ?_) <;> (first | refine AQ.p rfl AOp.fa ?_ | refine AQ.p rfl (AOp.fr 6) ?_) <;> (first | refine AQ.p rfl AOp.la ?_ | refine AQ.p rfl (AOp.ll 0) ?_) <;> (first | refine AQ.p rfl (AOp.call rfl rfl (hF.pure _)) ?_ | refine AQ.p rfl (AOp.call rfl rfl (hF2.pure _)) ?_) <;> refine AQ.es 2 ?_ <;> refine AQ.nil ?_) | (refine AW.r 2 ?_ <;> (first | refine AL.d AOp.fa ?_ | refine AL.d (AOp.fr 0) ?_) <;> (first | refine AL.d AOp.la ?_ | refine AL.d (AOp.ll 0) ?_) <;> refine AL.nil ?_) | refine AW.re 3 2 ?_ | refine AW.re 5 2 ?_ | refine AW.re 7 2 ?_ | refine AW.re 9 2 ?_ | refine AW.re 11 2 ?_ | (refine AW.dl 12 7 ?_ <;> refine AQ.es 2 ?_ <;> (first | refine AQ.p rfl AOp.fa ?_ | refine AQ.p rfl (AOp.fr 5) ?_) <;> (first | refine AQ.p rfl AOp.la ?_ | refine AQ.p rfl (AOp.ll 0) ?_) <;> (first | refine AQ.p rfl AOp.fa ?_ | refine AQ.p rfl (AOp.fr 1) ?_) <;> (first | refine AQ.p rfl AOp.la ?_ | refine AQ.p rfl (AOp.ll 0) ?_) <;> refine AQ.p rfl (AOp.index_osl rfl rfl (by omega) (by omega) (by kernel_rfl)) ?_ <;> refine AQ.nil ?_ <;> (first | (refine AL.store_cell 1 rfl rfl rfl (by simp; omega) rfl rfl (by kernel_rfl) ?_) | refine AL.sl 0 ?_) <;> refine AL.nil ?_) | refine AW.re 13 1 ?_ | refine AW.jt ?_ | refine AW.jf ?_ | refine AW.jj (fun hb => ?_) (fun hb => ?_) | refine AW.go ?_ | fail)
  refine AW.frame_eq rfl (hset0 true) ?_
  refine AW.prune [0, 3, 4, 5, 6] (AW.loop (fun mz af h => ∃ (i : Nat) (v : Bool), i ≤ (m.rels snm).length ∧ mz = (m.rels snm).length - i ∧ af = [(0, .ref X.mb 0), (3, .at (.st [.int .i64 14, .int .i64 sf, .int .i64 sg, .int .i64 sr, .int .i64 sn, .str snm, .str sfr, slit.av, ints sregs, .sl (sbody.map GStmt.av), .sl (sels.map GStmt.av)])), (4, .int .i64 j), (5, .int .i64 j2), (6, .int .i64 i)] ∧ h = (m.setF sf v).rah X bk 0 ∧ v = decide ((m.rels snm).take i = (m.rels sfr).take i)) (m.rels snm).length ⟨0, true, Nat.zero_le _, rfl, rfl, rfl, rfl⟩ ?_)
  rintro mz af h ⟨i, v, hi, rfl, rfl, rfl, he⟩
  refine AW.seq ?_
  by_cases hlt : i < (m.rels snm).length
  · have hrow := has_at X (m.setF sf v) bk 0 f2
    have htab := tab_at X (m.setF sf v) bk 0 f4
    have hcell := tab_cell (m.setF sf v) bk f2
    have hcell2 := tab_cell (m.setF sf v) bk g2
    have hrow2 := has_at X (m.setF sf v) bk 0 g2
    rw [f3] at hrow hcell
    rw [g3] at hrow2 hcell2
    obtain ⟨x, hx⟩ := get_lt hlt
    obtain ⟨y, hy⟩ := get_lt (show i < (m.rels sfr).length by omega)
    have hx' : ((m.rels snm).map bav)[((i : Nat) : Int).toNat]? = some (.bool x) := map_get hx
    have hy' : ((m.rels sfr).map bav)[((i : Nat) : Int).toNat]? = some (.bool y) := map_get hy
    have hfl2 : (m.setF sf v).flags.length = F := by rw [← hfl]; simp [MS.setF]
    rw [show (m.setF sf v).rels = m.rels from rfl] at hrow hrow2 hcell hcell2
    repeat' (first | (refine AW.r 14 ?_ <;> refine AL.es 3 ?_ <;> (first | refine AL.d AOp.fa ?_ | refine AL.d (AOp.fr 7) ?_) <;> (first | refine AL.d (AOp.load_cell (X.c.Arrays.length + 3) rfl htab hcell rfl (by kernel_rfl)) ?_ | refine AL.d AOp.la ?_ | refine AL.d (AOp.ll 0) ?_) <;> refine AL.es 1 ?_ <;> refine AL.d (AOp.index_val 3 rfl hAb rfl (by omega) (by omega) (by kernel_rfl)) ?_ <;> (first | refine AL.d AOp.fa ?_ | refine AL.d (AOp.fr 2) ?_) <;> (first | refine AL.d (AOp.load_cell (X.c.Arrays.length + 3) rfl htab hcell rfl (by kernel_rfl)) ?_ | refine AL.d AOp.la ?_ | refine AL.d (AOp.ll 0) ?_) <;> refine AL.es 2 ?_ <;> refine AL.nil ?_) | refine AW.jt ?_ | refine AW.jf ?_ | refine AW.jj (fun hb => ?_) (fun hb => ?_) | refine AW.go ?_ | fail)
    all_goals try (exfalso; simp only [decide_eq_true_eq, decide_eq_false_iff_not, List.length_map] at *; omega)
    repeat' (first | (refine AW.dq 16 ?_ <;> refine AQ.es 2 ?_ <;> (first | refine AQ.p rfl AOp.fa ?_ | refine AQ.p rfl (AOp.fr 7) ?_) <;> (first | refine AQ.p rfl (AOp.load_cell (X.c.Arrays.length + 3) rfl htab hcell rfl (by kernel_rfl)) ?_ | refine AQ.p rfl (AOp.load_cell (X.c.Arrays.length + 3) rfl htab hcell2 rfl (by kernel_rfl)) ?_ | refine AQ.p rfl (AOp.load_cell (j + 3) rfl hrow hx' rfl (by kernel_rfl)) ?_ | refine AQ.p rfl (AOp.load_cell (j2 + 3) rfl hrow2 hy' rfl (by kernel_rfl)) ?_ | refine AQ.p rfl AOp.la ?_ | refine AQ.p rfl (AOp.ll 0) ?_) <;> refine AQ.es 1 ?_ <;> (first | refine AQ.p rfl (AOp.index_val 3 rfl hAb rfl (by omega) (by omega) (by kernel_rfl)) ?_ | refine AQ.p rfl (AOp.index_osl rfl rfl (by omega) (by omega) (by kernel_rfl)) ?_) <;> (first | refine AQ.p rfl AOp.fa ?_ | refine AQ.p rfl (AOp.fr 2) ?_) <;> (first | refine AQ.p rfl (AOp.load_cell (X.c.Arrays.length + 3) rfl htab hcell rfl (by kernel_rfl)) ?_ | refine AQ.p rfl (AOp.load_cell (X.c.Arrays.length + 3) rfl htab hcell2 rfl (by kernel_rfl)) ?_ | refine AQ.p rfl (AOp.load_cell (j + 3) rfl hrow hx' rfl (by kernel_rfl)) ?_ | refine AQ.p rfl (AOp.load_cell (j2 + 3) rfl hrow2 hy' rfl (by kernel_rfl)) ?_ | refine AQ.p rfl AOp.la ?_ | refine AQ.p rfl (AOp.ll 0) ?_) <;> refine AQ.es 1 ?_ <;> (first | refine AQ.p rfl (AOp.index_val 3 rfl hAb rfl (by omega) (by omega) (by kernel_rfl)) ?_ | refine AQ.p rfl (AOp.index_osl rfl rfl (by omega) (by omega) (by kernel_rfl)) ?_) <;> (first | refine AQ.p rfl (AOp.load_cell (X.c.Arrays.length + 3) rfl htab hcell rfl (by kernel_rfl)) ?_ | refine AQ.p rfl (AOp.load_cell (X.c.Arrays.length + 3) rfl htab hcell2 rfl (by kernel_rfl)) ?_ | refine AQ.p rfl (AOp.load_cell (j + 3) rfl hrow hx' rfl (by kernel_rfl)) ?_ | refine AQ.p rfl (AOp.load_cell (j2 + 3) rfl hrow2 hy' rfl (by kernel_rfl)) ?_ | refine AQ.p rfl AOp.la ?_ | refine AQ.p rfl (AOp.ll 0) ?_) <;> refine AQ.es 2 ?_ <;> (first | refine AQ.p rfl AOp.fa ?_ | refine AQ.p rfl (AOp.fr 7) ?_) <;> (first | refine AQ.p rfl (AOp.load_cell (X.c.Arrays.length + 3) rfl htab hcell rfl (by kernel_rfl)) ?_ | refine AQ.p rfl (AOp.load_cell (X.c.Arrays.length + 3) rfl htab hcell2 rfl (by kernel_rfl)) ?_ | refine AQ.p rfl (AOp.load_cell (j + 3) rfl hrow hx' rfl (by kernel_rfl)) ?_ | refine AQ.p rfl (AOp.load_cell (j2 + 3) rfl hrow2 hy' rfl (by kernel_rfl)) ?_ | refine AQ.p rfl AOp.la ?_ | refine AQ.p rfl (AOp.ll 0) ?_) <;> refine AQ.es 1 ?_ <;> (first | refine AQ.p rfl (AOp.index_val 3 rfl hAb rfl (by omega) (by omega) (by kernel_rfl)) ?_ | refine AQ.p rfl (AOp.index_osl rfl rfl (by omega) (by omega) (by kernel_rfl)) ?_) <;> (first | refine AQ.p rfl AOp.fa ?_ | refine AQ.p rfl (AOp.fr 2) ?_) <;> (first | refine AQ.p rfl (AOp.load_cell (X.c.Arrays.length + 3) rfl htab hcell rfl (by kernel_rfl)) ?_ | refine AQ.p rfl (AOp.load_cell (X.c.Arrays.length + 3) rfl htab hcell2 rfl (by kernel_rfl)) ?_ | refine AQ.p rfl (AOp.load_cell (j + 3) rfl hrow hx' rfl (by kernel_rfl)) ?_ | refine AQ.p rfl (AOp.load_cell (j2 + 3) rfl hrow2 hy' rfl (by kernel_rfl)) ?_ | refine AQ.p rfl AOp.la ?_ | refine AQ.p rfl (AOp.ll 0) ?_) <;> refine AQ.es 1 ?_ <;> (first | refine AQ.p rfl (AOp.index_val 3 rfl hAb rfl (by omega) (by omega) (by kernel_rfl)) ?_ | refine AQ.p rfl (AOp.index_osl rfl rfl (by omega) (by omega) (by kernel_rfl)) ?_) <;> (first | refine AQ.p rfl (AOp.load_cell (X.c.Arrays.length + 3) rfl htab hcell rfl (by kernel_rfl)) ?_ | refine AQ.p rfl (AOp.load_cell (X.c.Arrays.length + 3) rfl htab hcell2 rfl (by kernel_rfl)) ?_ | refine AQ.p rfl (AOp.load_cell (j + 3) rfl hrow hx' rfl (by kernel_rfl)) ?_ | refine AQ.p rfl (AOp.load_cell (j2 + 3) rfl hrow2 hy' rfl (by kernel_rfl)) ?_ | refine AQ.p rfl AOp.la ?_ | refine AQ.p rfl (AOp.ll 0) ?_) <;> (first | refine AQ.e ?_ | refine AQ.p rfl AOp.bn ?_) <;> refine AQ.nil ?_) | (refine AW.dl 17 7 ?_ <;> refine AQ.es 2 ?_ <;> (first | refine AQ.p rfl AOp.fa ?_ | refine AQ.p rfl (AOp.fr 5) ?_) <;> (first | refine AQ.p rfl (AOp.load_cell (X.c.Arrays.length + 3) rfl htab hcell rfl (by kernel_rfl)) ?_ | refine AQ.p rfl (AOp.load_cell (X.c.Arrays.length + 3) rfl htab hcell2 rfl (by kernel_rfl)) ?_ | refine AQ.p rfl (AOp.load_cell (j + 3) rfl hrow hx' rfl (by kernel_rfl)) ?_ | refine AQ.p rfl (AOp.load_cell (j2 + 3) rfl hrow2 hy' rfl (by kernel_rfl)) ?_ | refine AQ.p rfl AOp.la ?_ | refine AQ.p rfl (AOp.ll 0) ?_) <;> (first | refine AQ.p rfl AOp.fa ?_ | refine AQ.p rfl (AOp.fr 1) ?_) <;> (first | refine AQ.p rfl (AOp.load_cell (X.c.Arrays.length + 3) rfl htab hcell rfl (by kernel_rfl)) ?_ | refine AQ.p rfl (AOp.load_cell (X.c.Arrays.length + 3) rfl htab hcell2 rfl (by kernel_rfl)) ?_ | refine AQ.p rfl (AOp.load_cell (j + 3) rfl hrow hx' rfl (by kernel_rfl)) ?_ | refine AQ.p rfl (AOp.load_cell (j2 + 3) rfl hrow2 hy' rfl (by kernel_rfl)) ?_ | refine AQ.p rfl AOp.la ?_ | refine AQ.p rfl (AOp.ll 0) ?_) <;> (first | refine AQ.p rfl (AOp.index_val 3 rfl hAb rfl (by omega) (by omega) (by kernel_rfl)) ?_ | refine AQ.p rfl (AOp.index_osl rfl rfl (by omega) (by omega) (by kernel_rfl)) ?_) <;> refine AQ.nil ?_ <;> (first | (refine AL.store_cell 1 rfl rfl rfl (by simp; omega) rfl rfl (by kernel_rfl) ?_) | refine AL.sl 0 ?_) <;> refine AL.nil ?_) | (refine AW.r 15 ?_ <;> refine AL.es 1 ?_ <;> refine AL.d AOp.ad ?_ <;> refine AL.es 1 ?_ <;> refine AL.nil ?_) | refine AW.jt ?_ | refine AW.jf ?_ | refine AW.jj (fun hb => ?_) (fun hb => ?_) | refine AW.go ?_ | fail)
    · refine AW.again_keep ((m.rels snm).length - (i + 1)) [0, 3, 4, 5, 6] (by omega) ⟨i + 1, false, hlt, rfl, rfl, hset v false, ?_⟩
      rw [take_dec hx hy]
      have hxy : x ≠ y := by simpa using hb
      simp [hxy]
    · refine AW.again_keep ((m.rels snm).length - (i + 1)) [0, 3, 4, 5, 6] (by omega) ⟨i + 1, v, hlt, rfl, rfl, rfl, ?_⟩
      rw [take_dec hx hy, ← he]
      have hxy : x = y := by simpa using hb
      simp [hxy]
  · have hv : v = decide (m.rels snm = m.rels sfr) := by rw [he, List.take_of_length_le (by omega), List.take_of_length_le (by omega)]
    have htab := tab_at X (m.setF sf v) bk 0 f4
    have hcell := tab_cell (m.setF sf v) bk f2
    rw [f3] at hcell
    rw [show (m.setF sf v).rels = m.rels from rfl] at hcell
    repeat' (first | (refine AW.r 14 ?_ <;> refine AL.es 3 ?_ <;> (first | refine AL.d AOp.fa ?_ | refine AL.d (AOp.fr 7) ?_) <;> (first | refine AL.d (AOp.load_cell (X.c.Arrays.length + 3) rfl htab hcell rfl (by kernel_rfl)) ?_ | refine AL.d AOp.la ?_ | refine AL.d (AOp.ll 0) ?_) <;> refine AL.es 1 ?_ <;> refine AL.d (AOp.index_val 3 rfl hAb rfl (by omega) (by omega) (by kernel_rfl)) ?_ <;> (first | refine AL.d AOp.fa ?_ | refine AL.d (AOp.fr 2) ?_) <;> (first | refine AL.d (AOp.load_cell (X.c.Arrays.length + 3) rfl htab hcell rfl (by kernel_rfl)) ?_ | refine AL.d AOp.la ?_ | refine AL.d (AOp.ll 0) ?_) <;> refine AL.es 2 ?_ <;> refine AL.nil ?_) | refine AW.jt ?_ | refine AW.jf ?_ | refine AW.jj (fun hb => ?_) (fun hb => ?_) | refine AW.go ?_ | fail)
    all_goals try (exfalso; simp only [decide_eq_true_eq, decide_eq_false_iff_not, List.length_map] at *; omega)
    rw [← hv] at hfit ⊢
    exact AW.donev rfl ⟨bk, hfit, rfl, rfl⟩
theorem ref_guess_bad (hX : RSt X F R sig) (hm : RFit X F R sig B m bk) {k : ByteArray} {n : Int} (hA : arOf X.c.Arrays k = some n) {j : Nat} {a : GSym} {b : Nat} (f2 : X.c.Arrays[j]? = some a) (f3 : a.Name = k) (f4 : X.A = some b) (f5 : j < X.c.Arrays.length) (h : (X.G.length : Int) - m.used < (m.rels k).length) :
    Tri Tryz.prog 137 [.ref X.mb 0, .int .i64 j] (m.rah X bk 0) (D (.tup []) (m.rah X bk 2)) := by
  have ha := hX.sg _ _ hA
  obtain ⟨hin, hlen, hle⟩ := hm.mf.sig _ _ ha
  have hal := hX.al
  have hus := hm.mf.used
  have hgl := hm.mf.glen
  simp only [RG.E] at hlen hle hus hgl
  have hcell := tab_cell m bk f2
  have hAb : (X.A.map fun b => (⟨b, 0, none⟩ : Addr)) = some ⟨b, 0, none⟩ := by rw [f4]; rfl
  rw [f3] at hcell
  have hGl : ((X.G.map bav).length : Int) = X.G.length := by simp
  refine Tri.enter 60 Tryz.func137 rfl rfl rfl rfl fun Fr w0 => ?_
  refine AW.perm (rah_front m bk 0 f4) ?_
  repeat' (first | (refine AW.r 0 ?_ <;> refine AL.es 2 ?_ <;> (first | refine AL.d AOp.fa ?_ | refine AL.d (AOp.fr 7) ?_) <;> (first | refine AL.d (AOp.load_cell 0 rfl rfl hcell rfl (by kernel_rfl)) ?_ | refine AL.d AOp.la ?_ | refine AL.d (AOp.ll 0) ?_ | refine AL.d (AOp.ll 1) ?_) <;> refine AL.es 1 ?_ <;> refine AL.d (AOp.index_val 3 rfl hAb rfl (by omega) (by omega) (by kernel_rfl)) ?_ <;> (first | refine AL.d AOp.fa ?_ | refine AL.d (AOp.fr 2) ?_) <;> (first | refine AL.d (AOp.load_cell 0 rfl rfl hcell rfl (by kernel_rfl)) ?_ | refine AL.d AOp.la ?_ | refine AL.d (AOp.ll 0) ?_ | refine AL.d (AOp.ll 1) ?_) <;> refine AL.es 1 ?_ <;> refine AL.makeSlice (n := (m.rels k).length) (e := 4) (c := .bool false) (z := .bool false) (bytes := 1) rfl rfl (by kernel_rfl) rfl (by omega) (by omega) rfl fun nb => ?_ <;> refine AL.es 1 ?_ <;> refine AL.nil ?_) | refine AW.jt ?_ | refine AW.jf ?_ | refine AW.jj (fun hb => ?_) (fun hb => ?_) | refine AW.go ?_ | fail)
  repeat' (first | (refine AW.dq 1 ?_ <;> refine AQ.es 2 ?_ <;> (first | refine AQ.p rfl AOp.fa ?_ | refine AQ.p rfl (AOp.fr 9) ?_) <;> (first | refine AQ.p rfl AOp.la ?_ | refine AQ.p rfl (AOp.ll 0) ?_ | refine AQ.p rfl (AOp.ll 1) ?_ | refine AQ.p rfl (AOp.ll 2) ?_) <;> refine AQ.es 3 ?_ <;> (first | refine AQ.p rfl AOp.fa ?_ | refine AQ.p rfl (AOp.fr 10) ?_) <;> (first | refine AQ.p rfl AOp.la ?_ | refine AQ.p rfl (AOp.ll 0) ?_ | refine AQ.p rfl (AOp.ll 1) ?_ | refine AQ.p rfl (AOp.ll 2) ?_) <;> refine AQ.p rfl AOp.sb ?_ <;> refine AQ.es 3 ?_ <;> refine AQ.nil ?_) | (refine AW.r 2 ?_ <;> refine AL.es 2 ?_ <;> (first | refine AL.d AOp.fa ?_ | refine AL.d (AOp.fr 13) ?_) <;> (first | refine AL.sl 0 ?_ | refine AL.sl 1 ?_ | refine AL.sl 2 ?_) <;> refine AL.nil ?_) | refine AW.jt ?_ | refine AW.jf ?_ | refine AW.jj (fun hb => ?_) (fun hb => ?_) | refine AW.go ?_ | fail)
  all_goals try (exfalso; simp only [decide_eq_true_eq, decide_eq_false_iff_not, List.length_map] at *; omega)
  refine AW.drop (List.sublist_cons_self _ _) (AW.perm (rah_front m bk 2 f4).symm ?_)
  exact AW.retv rfl ⟨rfl, rfl⟩
theorem ref_guess_ok (hX : RSt X F R sig) (hm : RFit X F R sig B m bk) {k : ByteArray} {n : Int} (hA : arOf X.c.Arrays k = some n) {j : Nat} {a : GSym} {b : Nat} (f2 : X.c.Arrays[j]? = some a) (f3 : a.Name = k) (f4 : X.A = some b) (f5 : j < X.c.Arrays.length) (h : ¬ (X.G.length : Int) - m.used < (m.rels k).length) :
    Tri Tryz.prog 137 [.ref X.mb 0, .int .i64 j] (m.rah X bk 0) (APost X F R sig B { m with rels := upd m.rels k ((X.G.drop m.used.toNat).take (m.rels k).length), used := m.used + (m.rels k).length }) := by
  have ha := hX.sg _ _ hA
  obtain ⟨hin, hlen, hle⟩ := hm.mf.sig _ _ ha
  have hal := hX.al
  have hus := hm.mf.used
  have hgl := hm.mf.glen
  simp only [RG.E] at hlen hle hus hgl
  have hcell := tab_cell m bk f2
  have hAb : (X.A.map fun b => (⟨b, 0, none⟩ : Addr)) = some ⟨b, 0, none⟩ := by rw [f4]; rfl
  have htl := tab_len m bk X.c.Arrays
  rw [f3] at hcell
  have hxl : ((X.G.drop m.used.toNat).take (m.rels k).length).length = (m.rels k).length := by simp; omega
  have hnew := fun nb => rah_new hX { m with used := m.used + (m.rels k).length } bk 0 f4 f2 ((X.G.drop m.used.toNat).take (m.rels k).length) (by rw [f3]; exact hxl) nb (m.rels k).length
  have hfit := fun nb => hm.upd hX hA ((X.G.drop m.used.toNat).take (m.rels k).length) hxl (m.used + (m.rels k).length) (by omega) (nb, (m.rels k).length) (by omega)
  rw [f3] at hnew
  have hbits : (((X.G.map bav).take (X.G.map bav).length).drop m.used.toNat).take (m.rels k).length ++ (List.replicate (m.rels k).length (AV.bool false)).drop (m.rels k).length = ((X.G.drop m.used.toNat).take (m.rels k).length).map bav := by
    have e : (List.replicate (m.rels k).length (AV.bool false)).drop (m.rels k).length = [] := List.drop_of_length_le (by simp)
    rw [List.take_length, e, List.append_nil, List.map_take, List.map_drop]
  have hGl : ((X.G.map bav).length : Int) = X.G.length := by simp
  refine Tri.enter 60 Tryz.func137 rfl rfl rfl rfl fun Fr w0 => ?_
  refine AW.perm (rah_front m bk 0 f4) ?_
  repeat' (first | (refine AW.r 0 ?_ <;> refine AL.es 2 ?_ <;> (first | refine AL.d AOp.fa ?_ | refine AL.d (AOp.fr 7) ?_) <;> (first | refine AL.d (AOp.load_cell 0 rfl rfl hcell rfl (by kernel_rfl)) ?_ | refine AL.d AOp.la ?_ | refine AL.d (AOp.ll 0) ?_ | refine AL.d (AOp.ll 1) ?_) <;> refine AL.es 1 ?_ <;> refine AL.d (AOp.index_val 3 rfl hAb rfl (by omega) (by omega) (by kernel_rfl)) ?_ <;> (first | refine AL.d AOp.fa ?_ | refine AL.d (AOp.fr 2) ?_) <;> (first | refine AL.d (AOp.load_cell 0 rfl rfl hcell rfl (by kernel_rfl)) ?_ | refine AL.d AOp.la ?_ | refine AL.d (AOp.ll 0) ?_ | refine AL.d (AOp.ll 1) ?_) <;> refine AL.es 1 ?_ <;> refine AL.makeSlice (n := (m.rels k).length) (e := 4) (c := .bool false) (z := .bool false) (bytes := 1) rfl rfl (by kernel_rfl) rfl (by omega) (by omega) rfl fun nb => ?_ <;> refine AL.es 1 ?_ <;> refine AL.nil ?_) | refine AW.jt ?_ | refine AW.jf ?_ | refine AW.jj (fun hb => ?_) (fun hb => ?_) | refine AW.go ?_ | fail)
  repeat' (first | (refine AW.dq 1 ?_ <;> refine AQ.es 2 ?_ <;> (first | refine AQ.p rfl AOp.fa ?_ | refine AQ.p rfl (AOp.fr 9) ?_) <;> (first | refine AQ.p rfl AOp.la ?_ | refine AQ.p rfl (AOp.ll 0) ?_ | refine AQ.p rfl (AOp.ll 1) ?_ | refine AQ.p rfl (AOp.ll 2) ?_) <;> refine AQ.es 3 ?_ <;> (first | refine AQ.p rfl AOp.fa ?_ | refine AQ.p rfl (AOp.fr 10) ?_) <;> (first | refine AQ.p rfl AOp.la ?_ | refine AQ.p rfl (AOp.ll 0) ?_ | refine AQ.p rfl (AOp.ll 1) ?_ | refine AQ.p rfl (AOp.ll 2) ?_) <;> refine AQ.p rfl AOp.sb ?_ <;> refine AQ.es 3 ?_ <;> refine AQ.nil ?_) | refine AW.jt ?_ | refine AW.jf ?_ | refine AW.jj (fun hb => ?_) (fun hb => ?_) | refine AW.go ?_ | fail)
  all_goals try (exfalso; simp only [decide_eq_true_eq, decide_eq_false_iff_not, List.length_map] at *; omega)
  repeat' (first | (refine AW.dl 3 10 ?_ <;> refine AQ.es 3 ?_ <;> (first | refine AQ.p rfl AOp.fa ?_ | refine AQ.p rfl (AOp.fr 9) ?_) <;> (first | refine AQ.p rfl AOp.la ?_ | refine AQ.p rfl (AOp.ll 0) ?_ | refine AQ.p rfl (AOp.ll 1) ?_ | refine AQ.p rfl (AOp.ll 2) ?_) <;> refine AQ.es 2 ?_ <;> (first | refine AQ.p rfl AOp.fa ?_ | refine AQ.p rfl (AOp.fr 10) ?_) <;> (first | refine AQ.p rfl AOp.la ?_ | refine AQ.p rfl (AOp.ll 0) ?_ | refine AQ.p rfl (AOp.ll 1) ?_ | refine AQ.p rfl (AOp.ll 2) ?_) <;> refine AQ.p rfl (AOp.cut (sz := 1) rfl rfl (by kernel_rfl) (P_map fun _ => rfl) (bndIs.some (n := m.used.toNat) rfl (by omega)) bndIs.none (by simp; omega) (Nat.le_refl _)) ?_ <;> refine AQ.nil ?_ <;> refine AL.d (AOp.copy_sl (i := 0) (m := (m.rels k).length) (e := 4) (c0 := .bool false) (bytes := 1) rfl rfl (by simp) rfl rfl (by kernel_rfl) (by repeat' (first | exact P_nil | refine P_app ?_ ?_ | refine P_take ?_ | refine P_drop ?_ | exact P_map fun _ => rfl | exact P_one rfl | exact P_rep rfl)) (ok_all (by repeat' (first | exact P_nil | refine P_app ?_ ?_ | refine P_take ?_ | refine P_drop ?_ | exact P_map fun _ => rfl | exact P_one rfl | exact P_rep rfl))) (by show _ = min _ _; simp; omega)) ?_ <;> refine AL.nil ?_) | (refine AW.r 4 ?_ <;> refine AL.es 2 ?_ <;> (first | refine AL.d AOp.fa ?_ | refine AL.d (AOp.fr 7) ?_) <;> (first | refine AL.d AOp.la ?_ | refine AL.d (AOp.ll 0) ?_ | refine AL.d (AOp.ll 1) ?_ | refine AL.d (AOp.ll 2) ?_) <;> refine AL.es 2 ?_ <;> refine AL.d (AOp.index_val 3 rfl hAb rfl (by omega) (by omega) (by kernel_rfl)) ?_ <;> (first | refine AL.d AOp.fa ?_ | refine AL.d (AOp.fr 2) ?_) <;> (first | (refine AL.store_cell 1 rfl rfl rfl (by rw [htl]; simp; omega) rfl rfl (by kernel_rfl) ?_) | refine AL.sl 0 ?_ | refine AL.sl 1 ?_ | refine AL.sl 2 ?_) <;> refine AL.nil ?_) | (refine AW.r 5 ?_ <;> refine AL.es 3 ?_ <;> (first | refine AL.d AOp.fa ?_ | refine AL.d (AOp.fr 10) ?_) <;> (first | refine AL.d AOp.la ?_ | refine AL.d (AOp.ll 0) ?_ | refine AL.d (AOp.ll 1) ?_ | refine AL.d (AOp.ll 2) ?_) <;> refine AL.es 2 ?_ <;> refine AL.d AOp.ad ?_ <;> refine AL.es 1 ?_ <;> (first | refine AL.d AOp.fa ?_ | refine AL.d (AOp.fr 10) ?_) <;> (first | (refine AL.store_cell 1 rfl rfl rfl (by rw [htl]; simp; omega) rfl rfl (by kernel_rfl) ?_) | refine AL.sl 0 ?_ | refine AL.sl 1 ?_ | refine AL.sl 2 ?_) <;> refine AL.nil ?_) | refine AW.jt ?_ | refine AW.jf ?_ | refine AW.jj (fun hb => ?_) (fun hb => ?_) | refine AW.go ?_ | fail)
  refine AW.perm perm_back ?_
  refine AW.swap (j := j) (by simpa using f5) ?_
  have hah := hnew nb
  rw [← hbits] at hah
  exact AW.donev rfl ⟨_, hfit nb, hah, rfl⟩
end Go.Proofs.YtdedkpfbfklgbaaGreat
namespace Go.Proofs.YtdedkpfbfklgbaaGreat
open Go.RowKit Go.SX
set_option maxRecDepth 100000
set_option maxHeartbeats 4000000
set_option linter.unusedVariables false
set_option linter.unusedSimpArgs false
theorem law_FewS (s : GStr) (hs : s.Ok) : Tri Tryz.prog 6 [.sl [s.av]] [] (fun x h => ∃ b, x = .ret (.bool b) ∧ h = []) := by
  obtain ⟨_, hs2, hs3⟩ := hs
  have h0 : ([s.av] : List AV)[((0 : Nat) : Int).toNat]? = some (.st [.int .i64 s.Size, .sl (s.Rels.map GRel.av)]) := rfl
  have h0' : ([s.av] : List AV)[(0 : Int).toNat]? = some (.st [.int .i64 s.Size, .sl (s.Rels.map GRel.av)]) := rfl
  refine Tri.enter 89 Tryz.func6 rfl rfl rfl rfl fun Fr w0 => ?_
  repeat' (first | refine AW.re 0 1 ?_ | refine AW.re 1 2 ?_ | refine AW.re 2 1 ?_ | refine AW.jt ?_ | refine AW.jf ?_ | refine AW.jj (fun hb => ?_) (fun hb => ?_) | refine AW.go ?_ | fail)
  refine AW.prune [0, 3, 4, 5] (AW.loop (fun m af h => ∃ (i : Nat) (T e : Int), i ≤ 1 ∧ m = 1 - i ∧ af = [(0, .sl [s.av]), (3, .int .i64 T), (4, .int .i64 e), (5, .int .i64 i)] ∧ h = [] ∧ 0 ≤ T ∧ T ≤ 1500 ∧ 0 ≤ e ∧ e ≤ T * 17592186044416 ∧ (i = 0 → T = 0)) 1 ⟨0, 0, 0, by omega, rfl, rfl, rfl, by omega, by omega, by omega, by omega, fun _ => rfl⟩ ?_)
  rintro m af h ⟨i, T, e, hi, rfl, rfl, rfl, hT0, hT1, he0, he1, hi0⟩
  refine AW.seq ?_
  by_cases hlt : i < 1
  · obtain rfl : i = 0 := by omega
    repeat' (first | refine AW.re 3 4 ?_ | (refine AW.r 5 ?_ <;> refine AL.es 2 ?_ <;> (first | refine AL.d (AOp.index_sl rfl rfl (by omega) h0 (by kernel_rfl) rfl) ?_ | refine AL.d (AOp.index_sl rfl rfl (by omega) h0' (by kernel_rfl) rfl) ?_) <;> refine AL.es 4 ?_ <;> refine AL.nil ?_) | refine AW.re 6 1 ?_ | refine AW.re 7 1 ?_ | refine AW.jt ?_ | refine AW.jf ?_ | refine AW.jj (fun hb => ?_) (fun hb => ?_) | refine AW.go ?_ | fail)
    all_goals try (exfalso; simp only [decide_eq_true_eq, decide_eq_false_iff_not] at *; simp at *; done)
    · exact AW.retv rfl ⟨_, rfl, rfl⟩
    have hR : s.Rels.length ≤ 12 := by simp only [decide_eq_false_iff_not, List.length_map] at hb; omega
    refine AW.prune [0, 3, 4, 5, 6] (AW.loop (fun m af h => ∃ (k : Nat) (T e : Int), k ≤ s.Rels.length ∧ m = s.Rels.length - k ∧ af = [(0, .sl [s.av]), (3, .int .i64 T), (4, .int .i64 e), (5, .int .i64 0), (6, .int .i64 k)] ∧ h = [] ∧ 0 ≤ T ∧ T ≤ 1500 ∧ 0 ≤ e ∧ e ≤ T * 17592186044416) s.Rels.length ⟨0, T, e, Nat.zero_le _, rfl, rfl, rfl, hT0, hT1, he0, he1⟩ ?_)
    rintro m af h ⟨k, T, e, hk, rfl, rfl, rfl, hT0, hT1, he0, he1⟩
    refine AW.seq ?_
    by_cases hlt2 : k < s.Rels.length
    · obtain ⟨r, hr⟩ := get_lt hlt2
      have hr' : (s.Rels.map GRel.av)[((k : Nat) : Int).toNat]? = some (.st [.str r.Name, .int .i64 r.Arity, .sl (r.Tuples.map ints)]) := map_get hr
      obtain ⟨_, _, hr3, hr4⟩ := hs3 r (List.mem_of_getElem? hr)
      have hTl : ((r.Tuples.map ints).length : Int) = r.Tuples.length := by simp
      repeat' (first | (refine AW.r 8 ?_ <;> refine AL.es 3 ?_ <;> (first | refine AL.d (AOp.index_sl rfl rfl (by omega) h0 (by kernel_rfl) rfl) ?_ | refine AL.d (AOp.index_sl rfl rfl (by omega) h0' (by kernel_rfl) rfl) ?_ | refine AL.d (AOp.index_sl rfl rfl (by omega) hr' (by kernel_rfl) rfl) ?_) <;> refine AL.es 4 ?_ <;> refine AL.nil ?_) | (refine AW.r 10 ?_ <;> refine AL.es 3 ?_ <;> (first | refine AL.d (AOp.index_sl rfl rfl (by omega) h0 (by kernel_rfl) rfl) ?_ | refine AL.d (AOp.index_sl rfl rfl (by omega) h0' (by kernel_rfl) rfl) ?_ | refine AL.d (AOp.index_sl rfl rfl (by omega) hr' (by kernel_rfl) rfl) ?_) <;> refine AL.es 3 ?_ <;> (first | refine AL.d (AOp.index_sl rfl rfl (by omega) h0 (by kernel_rfl) rfl) ?_ | refine AL.d (AOp.index_sl rfl rfl (by omega) h0' (by kernel_rfl) rfl) ?_ | refine AL.d (AOp.index_sl rfl rfl (by omega) hr' (by kernel_rfl) rfl) ?_) <;> refine AL.es 3 ?_ <;> refine AL.d AOp.ad ?_ <;> refine AL.es 1 ?_ <;> refine AL.nil ?_) | (refine AW.r 11 ?_ <;> refine AL.es 3 ?_ <;> (first | refine AL.es 2 ?_ | (refine AL.gx (fun hb => ?_) (fun hb => ?_) <;> refine AL.es 2 ?_)) <;> (first | (refine AL.gd ?_; (first | refine AL.d (AOp.index_sl rfl rfl (by omega) h0 (by kernel_rfl) rfl) ?_ | refine AL.d (AOp.index_sl rfl rfl (by omega) h0' (by kernel_rfl) rfl) ?_ | refine AL.d (AOp.index_sl rfl rfl (by omega) hr' (by kernel_rfl) rfl) ?_)) | refine AL.gs ?_ | refine AL.gu ?_) <;> refine AL.es 3 ?_ <;> (first | (refine AL.gd ?_; (first | refine AL.d (AOp.index_sl rfl rfl (by omega) h0 (by kernel_rfl) rfl) ?_ | refine AL.d (AOp.index_sl rfl rfl (by omega) h0' (by kernel_rfl) rfl) ?_ | refine AL.d (AOp.index_sl rfl rfl (by omega) hr' (by kernel_rfl) rfl) ?_)) | refine AL.gs ?_ | refine AL.gu ?_) <;> refine AL.es 5 ?_ <;> refine AL.nil ?_) | refine AW.re 12 1 ?_ | refine AW.re 13 1 ?_ | refine AW.jt ?_ | refine AW.jf ?_ | refine AW.jj (fun hb => ?_) (fun hb => ?_) | refine AW.go ?_ | fail)
      all_goals first
        | (exfalso; simp only [decide_eq_true_eq, decide_eq_false_iff_not, List.length_map] at *; omega)
        | exact AW.retv rfl ⟨_, rfl, rfl⟩
        | skip
      have hT2 : T + r.Tuples.length ≤ 1500 := by simp only [decide_eq_true_eq, decide_eq_false_iff_not, List.length_map] at *; omega
      refine AW.prune [0, 3, 4, 5, 6, 7] (AW.loop (fun m af h => ∃ (j : Nat) (e : Int), j ≤ r.Tuples.length ∧ m = r.Tuples.length - j ∧ af = [(0, .sl [s.av]), (3, .int .i64 (T + (r.Tuples.map ints).length)), (4, .int .i64 e), (5, .int .i64 0), (6, .int .i64 k), (7, .int .i64 j)] ∧ h = [] ∧ 0 ≤ e ∧ e ≤ (T + j) * 17592186044416) r.Tuples.length ⟨0, e, Nat.zero_le _, rfl, rfl, rfl, he0, by omega⟩ ?_)
      rintro m af h ⟨j, e, hj, rfl, rfl, rfl, he0, he1⟩
      refine AW.seq ?_
      by_cases hlt3 : j < r.Tuples.length
      · obtain ⟨t, ht⟩ := get_lt hlt3
        have ht' : (r.Tuples.map ints)[((j : Nat) : Int).toNat]? = some (ints t) := map_get ht
        have htl : ((t.map iav).length : Int) = t.length := by simp
        have htb := (hr4 t (List.mem_of_getElem? ht)).1
        repeat' (first | (refine AW.r 14 ?_ <;> refine AL.es 3 ?_ <;> (first | refine AL.d (AOp.index_sl rfl rfl (by omega) h0 (by kernel_rfl) rfl) ?_ | refine AL.d (AOp.index_sl rfl rfl (by omega) h0' (by kernel_rfl) rfl) ?_ | refine AL.d (AOp.index_sl rfl rfl (by omega) hr' (by kernel_rfl) rfl) ?_ | refine AL.d (AOp.index_sl rfl rfl (by omega) ht' (by kernel_rfl) rfl) ?_) <;> refine AL.es 3 ?_ <;> (first | refine AL.d (AOp.index_sl rfl rfl (by omega) h0 (by kernel_rfl) rfl) ?_ | refine AL.d (AOp.index_sl rfl rfl (by omega) h0' (by kernel_rfl) rfl) ?_ | refine AL.d (AOp.index_sl rfl rfl (by omega) hr' (by kernel_rfl) rfl) ?_ | refine AL.d (AOp.index_sl rfl rfl (by omega) ht' (by kernel_rfl) rfl) ?_) <;> refine AL.es 4 ?_ <;> refine AL.nil ?_) | (refine AW.r 16 ?_ <;> refine AL.es 3 ?_ <;> (first | refine AL.d (AOp.index_sl rfl rfl (by omega) h0 (by kernel_rfl) rfl) ?_ | refine AL.d (AOp.index_sl rfl rfl (by omega) h0' (by kernel_rfl) rfl) ?_ | refine AL.d (AOp.index_sl rfl rfl (by omega) hr' (by kernel_rfl) rfl) ?_ | refine AL.d (AOp.index_sl rfl rfl (by omega) ht' (by kernel_rfl) rfl) ?_) <;> refine AL.es 3 ?_ <;> (first | refine AL.d (AOp.index_sl rfl rfl (by omega) h0 (by kernel_rfl) rfl) ?_ | refine AL.d (AOp.index_sl rfl rfl (by omega) h0' (by kernel_rfl) rfl) ?_ | refine AL.d (AOp.index_sl rfl rfl (by omega) hr' (by kernel_rfl) rfl) ?_ | refine AL.d (AOp.index_sl rfl rfl (by omega) ht' (by kernel_rfl) rfl) ?_) <;> refine AL.es 3 ?_ <;> (first | refine AL.d (AOp.index_sl rfl rfl (by omega) h0 (by kernel_rfl) rfl) ?_ | refine AL.d (AOp.index_sl rfl rfl (by omega) h0' (by kernel_rfl) rfl) ?_ | refine AL.d (AOp.index_sl rfl rfl (by omega) hr' (by kernel_rfl) rfl) ?_ | refine AL.d (AOp.index_sl rfl rfl (by omega) ht' (by kernel_rfl) rfl) ?_) <;> refine AL.es 2 ?_ <;> refine AL.d AOp.ad ?_ <;> refine AL.es 1 ?_ <;> refine AL.nil ?_) | (refine AW.r 15 ?_ <;> refine AL.es 1 ?_ <;> refine AL.d AOp.ad ?_ <;> refine AL.es 1 ?_ <;> refine AL.nil ?_) | refine AW.jt ?_ | refine AW.jf ?_ | refine AW.jj (fun hb => ?_) (fun hb => ?_) | refine AW.go ?_ | fail)
        all_goals first
          | (exfalso; simp only [decide_eq_true_eq, decide_eq_false_iff_not, List.length_map] at *; omega)
          | exact AW.again_keep (r.Tuples.length - (j + 1)) [0, 3, 4, 5, 6, 7] (by omega) ⟨j + 1, _, hlt3, rfl, rfl, rfl, by omega, by omega⟩
      · repeat' (first | (refine AW.r 14 ?_ <;> refine AL.es 3 ?_ <;> (first | refine AL.d (AOp.index_sl rfl rfl (by omega) h0 (by kernel_rfl) rfl) ?_ | refine AL.d (AOp.index_sl rfl rfl (by omega) h0' (by kernel_rfl) rfl) ?_ | refine AL.d (AOp.index_sl rfl rfl (by omega) hr' (by kernel_rfl) rfl) ?_) <;> refine AL.es 3 ?_ <;> (first | refine AL.d (AOp.index_sl rfl rfl (by omega) h0 (by kernel_rfl) rfl) ?_ | refine AL.d (AOp.index_sl rfl rfl (by omega) h0' (by kernel_rfl) rfl) ?_ | refine AL.d (AOp.index_sl rfl rfl (by omega) hr' (by kernel_rfl) rfl) ?_) <;> refine AL.es 4 ?_ <;> refine AL.nil ?_) | (refine AW.r 9 ?_ <;> refine AL.es 1 ?_ <;> refine AL.d AOp.ad ?_ <;> refine AL.es 1 ?_ <;> refine AL.nil ?_) | refine AW.jt ?_ | refine AW.jf ?_ | refine AW.jj (fun hb => ?_) (fun hb => ?_) | refine AW.go ?_ | fail)
        all_goals first
          | (exfalso; simp only [decide_eq_true_eq, decide_eq_false_iff_not, List.length_map] at *; omega)
          | exact AW.again_keep (s.Rels.length - (k + 1)) [0, 3, 4, 5, 6] (by omega) ⟨k + 1, _, _, hlt2, rfl, rfl, rfl, by omega, by omega, he0, by rw [hTl]; rw [show j = r.Tuples.length from by omega] at he1; exact he1⟩
    · repeat' (first | (refine AW.r 8 ?_ <;> refine AL.es 3 ?_ <;> (first | refine AL.d (AOp.index_sl rfl rfl (by omega) h0 (by kernel_rfl) rfl) ?_ | refine AL.d (AOp.index_sl rfl rfl (by omega) h0' (by kernel_rfl) rfl) ?_) <;> refine AL.es 4 ?_ <;> refine AL.nil ?_) | (refine AW.r 4 ?_ <;> refine AL.es 1 ?_ <;> refine AL.d AOp.ad ?_ <;> refine AL.es 1 ?_ <;> refine AL.nil ?_) | refine AW.jt ?_ | refine AW.jf ?_ | refine AW.jj (fun hb => ?_) (fun hb => ?_) | refine AW.go ?_ | fail)
      all_goals first
        | (exfalso; simp only [decide_eq_true_eq, decide_eq_false_iff_not, List.length_map] at *; omega)
        | exact AW.again_keep 0 [0, 3, 4, 5] (by omega) ⟨1, T, e, by omega, rfl, rfl, rfl, hT0, hT1, he0, he1, by omega⟩
  · repeat' (first | refine AW.re 3 4 ?_ | refine AW.re 17 3 ?_ | refine AW.jt ?_ | refine AW.jf ?_ | refine AW.jj (fun hb => ?_) (fun hb => ?_) | refine AW.go ?_ | fail)
    all_goals first
      | (exfalso; simp only [decide_eq_true_eq, decide_eq_false_iff_not, List.length_cons, List.length_nil] at *; omega)
      | exact AW.retv rfl ⟨_, rfl, rfl⟩
      | exact AW.donev rfl ⟨_, rfl, rfl⟩
end Go.Proofs.YtdedkpfbfklgbaaGreat
namespace Go.Proofs.YtdedkpfbfklgbaaGreat
open Go.RowKit Go.SX
set_option maxRecDepth 100000
set_option maxHeartbeats 4000000
set_option linter.unusedVariables false
set_option linter.unusedSimpArgs false
theorem emp_ok : strOk ⟨#[]⟩ := by show (0 : Nat) ≤ _; omega
theorem nameE_ok : strOk nameE := by show (1 : Nat) ≤ _; omega
theorem len0 {α : Type} {n : Nat} {bd : α → Prop} : lenOk n bd [] := ⟨by simp, by simp⟩
theorem len1 {α : Type} {n : Nat} {bd : α → Prop} {x : α} (hn : n ≤ 1000) (h : bd x) : lenOk n bd [x] := ⟨by simp; omega, by simpa using h⟩
theorem len2 {α : Type} {n : Nat} {bd : α → Prop} {x y : α} (hn : n ≤ 1000) (h : bd x) (h' : bd y) : lenOk n bd [x, y] := ⟨by simp; omega, by simpa using ⟨h, h'⟩⟩
theorem noLit_ok : noLit.Ok := ⟨rfl, emp_ok, len0⟩
theorem edgesC_ok : edgesC.Ok := by
  have s0 : GStmt.Ok ⟨0, 1, 0, 0, 0, ⟨#[]⟩, ⟨#[]⟩, ⟨0, false, nameE, [0, 1]⟩, [], [], []⟩ := .mk ⟨rfl, rfl, rfl, rfl, rfl, emp_ok, emp_ok, ⟨rfl, nameE_ok, len2 (by omega) rfl rfl⟩, len0⟩ (by simp) (by simp) (by simp) (by simp)
  have s1 : GStmt.Ok ⟨3, 0, 1, 0, 0, ⟨#[]⟩, ⟨#[]⟩, noLit, [], [], []⟩ := .mk ⟨rfl, rfl, rfl, rfl, rfl, emp_ok, emp_ok, noLit_ok, len0⟩ (by simp) (by simp) (by simp) (by simp)
  have s2 : GStmt.Ok ⟨7, 0, 0, 1, 0, ⟨#[]⟩, ⟨#[]⟩, noLit, [], [⟨0, 1, 0, 0, 0, ⟨#[]⟩, ⟨#[]⟩, ⟨0, false, nameE, [0, 1]⟩, [], [], []⟩, ⟨3, 0, 1, 0, 0, ⟨#[]⟩, ⟨#[]⟩, noLit, [], [], []⟩], []⟩ :=
    .mk ⟨rfl, rfl, rfl, rfl, rfl, emp_ok, emp_ok, noLit_ok, len0⟩ (by simp) (by intro x h; simp only [List.mem_cons, List.not_mem_nil, or_false] at h; rcases h with rfl | rfl; exact s0; exact s1) (by simp) (by simp)
  refine ⟨rfl, rfl, len0, len1 (by omega) ?_⟩
  exact .mk ⟨rfl, rfl, rfl, rfl, rfl, emp_ok, emp_ok, noLit_ok, len0⟩ (by simp) (by intro x h; simp only [List.mem_cons, List.not_mem_nil, or_false] at h; subst h; exact s2) (by simp) (by simp)
theorem edgesS_ok : edgesS.Ok := ⟨rfl, len1 (by omega) ⟨nameE_ok, rfl, len1 (by omega) (len2 (by omega) rfl rfl)⟩⟩
theorem law_alive : Tri Tryz.prog 7 [] [] (D (.bool true) []) := by
  obtain ⟨b, n, g, e, hR, hT⟩ := code_RunD edgesC edgesS [] 100 edgesC_ok edgesS_ok (by simp)
  obtain ⟨rfl, rfl, rfl⟩ := edges_run hR
  have hE := law_edges
  have hM := code_Time edgesC edgesC_ok (by decide)
  rw [edges_time] at hM
  have hQ := ref_Equal [1, 1, 2] [1, 1, 2] (by simp) (by simp)
  refine Tri.enter 44 Tryz.func7 rfl rfl rfl rfl fun Fr w0 => ?_
  repeat' (first | refine AW.re 0 1 ?_ | refine AW.jt ?_ | refine AW.jf ?_ | refine AW.jj (fun hb => ?_) (fun hb => ?_) | refine AW.go ?_ | fail)
  repeat' (first | (refine AW.r 1 ?_ <;> (first | refine AL.d (AOp.lit (t := 40) (e := 3) (sz := 1) (by kernel_rfl) rfl rfl rfl (by simp [AV.size, ofConst]) (by decide)) ?_ | refine AL.d (AOp.lit (t := 54) (e := 40) (sz := 1) (by kernel_rfl) rfl rfl rfl (by simp [AV.size, ofConst]) (by decide)) ?_ | refine AL.d (AOp.lit (t := 26) (e := 56) (sz := 3) (by kernel_rfl) rfl rfl rfl (by simp [AV.size, AV.sizes, ofConst]) (by decide)) ?_) <;> (first | refine AL.d (AOp.lit (t := 40) (e := 3) (sz := 1) (by kernel_rfl) rfl rfl rfl (by simp [AV.size, ofConst]) (by decide)) ?_ | refine AL.d (AOp.lit (t := 54) (e := 40) (sz := 1) (by kernel_rfl) rfl rfl rfl (by simp [AV.size, ofConst]) (by decide)) ?_ | refine AL.d (AOp.lit (t := 26) (e := 56) (sz := 3) (by kernel_rfl) rfl rfl rfl (by simp [AV.size, AV.sizes, ofConst]) (by decide)) ?_) <;> refine AL.d (AOp.build (pl := [(0, 1), (1, 1), (2, 1)]) (z := .st [.str ⟨#[]⟩, .int .i64 0, .sl []]) (by kernel_rfl) rfl rfl rfl) ?_ <;> (first | refine AL.d (AOp.lit (t := 40) (e := 3) (sz := 1) (by kernel_rfl) rfl rfl rfl (by simp [AV.size, ofConst]) (by decide)) ?_ | refine AL.d (AOp.lit (t := 54) (e := 40) (sz := 1) (by kernel_rfl) rfl rfl rfl (by simp [AV.size, ofConst]) (by decide)) ?_ | refine AL.d (AOp.lit (t := 26) (e := 56) (sz := 3) (by kernel_rfl) rfl rfl rfl (by simp [AV.size, AV.sizes, ofConst]) (by decide)) ?_) <;> refine AL.d (AOp.build (pl := [(0, 1), (1, 1)]) (z := .st [.int .i64 0, .sl []]) (by kernel_rfl) rfl rfl rfl) ?_ <;> refine AL.alloc_store (by kernel_rfl) rfl rfl rfl rfl ?_ <;> refine AL.nil ?_) | refine AW.jt ?_ | refine AW.jf ?_ | refine AW.jj (fun hb => ?_) (fun hb => ?_) | refine AW.go ?_ | fail)
  repeat' (first | (refine AW.dq 2 ?_ <;> (first | refine AQ.p rfl (AOp.call rfl rfl hE) ?_ | refine AQ.p rfl (AOp.call rfl rfl hT) ?_ | refine AQ.p rfl (AOp.call rfl rfl hM) ?_) <;> refine AQ.es 1 ?_ <;> (first | refine AQ.p rfl (AOp.call rfl rfl hE) ?_ | refine AQ.p rfl (AOp.call rfl rfl hT) ?_ | refine AQ.p rfl (AOp.call rfl rfl hM) ?_) <;> refine AQ.es 9 ?_ <;> refine AQ.nil ?_) | (refine AW.r 3 ?_ <;> (first | refine AL.d (AOp.call rfl rfl hE) ?_ | refine AL.d (AOp.call rfl rfl hT) ?_ | refine AL.d (AOp.call rfl rfl hM) ?_) <;> (first | refine AL.d (AOp.call rfl rfl hE) ?_ | refine AL.d (AOp.call rfl rfl hT) ?_ | refine AL.d (AOp.call rfl rfl hM) ?_) <;> refine AL.es 5 ?_ <;> refine AL.nil ?_) | refine AW.jt ?_ | refine AW.jf ?_ | refine AW.jj (fun hb => ?_) (fun hb => ?_) | refine AW.go ?_ | fail)
  repeat' (first | (refine AW.r 4 ?_ <;> refine AL.es 3 ?_ <;> (first | refine AL.es 4 ?_ | (refine AL.gx (fun hb => ?_) (fun hb => ?_) <;> refine AL.es 4 ?_)) <;> (first | refine AL.es 3 ?_ | (refine AL.gx (fun hb => ?_) (fun hb => ?_) <;> refine AL.es 3 ?_)) <;> (first | refine AL.es 4 ?_ | (refine AL.gx (fun hb => ?_) (fun hb => ?_) <;> refine AL.es 4 ?_)) <;> (first | refine AL.es 1 ?_ | (refine AL.gx (fun hb => ?_) (fun hb => ?_) <;> refine AL.es 1 ?_)) <;> (first | (refine AL.gd ?_; refine AL.d (AOp.lit (t := 40) (e := 3) (sz := 1) (by kernel_rfl) rfl rfl rfl (by simp [AV.size, ofConst]) (by decide)) ?_) | refine AL.gs ?_ | refine AL.gu ?_) <;> (first | (refine AL.gd ?_; refine AL.d (AOp.call rfl rfl hQ) ?_) | refine AL.gs ?_ | refine AL.gu ?_) <;> refine AL.es 2 ?_ <;> refine AL.nil ?_) | refine AW.jt ?_ | refine AW.jf ?_ | refine AW.jj (fun hb => ?_) (fun hb => ?_) | refine AW.go ?_ | fail)
  exact AW.retv rfl ⟨by simp, rfl⟩
end Go.Proofs.YtdedkpfbfklgbaaGreat
namespace Go.Proofs.YtdedkpfbfklgbaaGreat
open Go.RowKit Go.SX
set_option maxRecDepth 100000
set_option maxHeartbeats 4000000
set_option linter.unusedVariables false
set_option linter.unusedSimpArgs false
theorem Ex.err {E : Env} {T : Task} {m : MS} {o : Option Int} {m' : MS} (h : Ex E T m o m') : ∀ e, o = some e → e = 7 ∨ e = 2 := by
  induction h with
  | stop h => intro e he; cases he; exact .inl rfl
  | gbad h h1 => intro e he; cases he; exact .inr rfl
  | ustop h h1 h2 h3 ih => intro e he; cases he; exact .inl rfl
  | nil => intro e he; cases he
  | prim => intro e he; cases he
  | gok => intro e he; cases he
  | eend => intro e he; cases he
  | t0 => intro e he; cases he
  | rz => intro e he; cases he
  | uend => intro e he; cases he
  | bad h h1 ih => exact ih
  | cons h h1 h2 ih1 ih2 => exact ih2
  | each h h1 ih => exact ih
  | ebad h h1 ih => exact ih
  | estep h h1 h2 ih1 ih2 => exact ih2
  | cond h h1 ih => exact ih
  | t1 h h1 h2 ih => exact ih
  | tz h1 ih => exact ih
  | ts h1 ih => exact ih
  | rbad h1 ih => exact ih
  | rstep h1 h2 ih1 ih2 => exact ih2
  | ubad h h1 ih => exact ih
  | ustep h h1 h2 h3 h4 ih1 ih2 => exact ih2
section
variable {c : GCode} {s : GStr} {G : List Bool} {fuel : Int} {b : Bool} {n g e : Int}
theorem RunR.bad (h : RunR c s G fuel b n g e) (he : e ≠ 0) : b = false ∧ n = 0 ∧ g = 0 := by
  cases h with
  | ok => exact absurd rfl he
  | _ => exact ⟨rfl, rfl, rfl⟩
theorem RunR.good (h : RunR c s G fuel b n g 0) : RunOk c s fuel ∧ ∃ m, Ex ⟨s.Size, G, fuel⟩ (.l c.Body) (m0 c s) none m ∧ b = flagAt m.flags 0 ∧ n = m.steps ∧ g = m.used := by
  cases h with
  | ok h hx => exact ⟨h, _, hx, rfl, rfl, rfl⟩
  | stop h hx => have := hx.err 0 rfl; omega
theorem RunR.bounds (h : RunR c s G fuel b n g 0) : 0 ≤ n ∧ n ≤ fuel ∧ 0 ≤ g ∧ g ≤ G.length ∧ fuel ≤ 10000000 := by
  obtain ⟨hok, m, hx, rfl, rfl, rfl⟩ := h.good
  have hg := hx.grow
  have e1 : (m0 c s).steps = 0 := rfl
  have e2 : (m0 c s).used = 0 := rfl
  have := hok.fuel
  have h3 := hg.2.2.1 (by show (m0 c s).steps ≤ fuel; omega)
  have h4 := hg.2.2.2 (by rw [e2]; omega)
  exact ⟨by omega, h3, by omega, h4, this.2⟩
theorem RunR.more (h : RunR c s G fuel b n g 0) {G' : List Bool} {fuel' : Int} {b' : Bool} {n' g' e' : Int} (k : RunR c s G' fuel' b' n' g' e') (ht : G'.take g.toNat = G.take g.toNat) (hl : g ≤ G'.length) (hf : n ≤ fuel') (hf2 : fuel' ≤ 10000000) : b' = b ∧ n' = n ∧ g' = g ∧ e' = 0 := by
  have hb := h.bounds
  obtain ⟨hok, m, hx, rfl, rfl, rfl⟩ := h.good
  have hx' : Ex ⟨s.Size, G', fuel'⟩ (.l c.Body) (m0 c s) none m := hx.other rfl rfl hf hl hb.2.2.2.1 (Int.le_refl _) ht
  have hok' : RunOk c s fuel' := ⟨hok.bad, hok.valid, hok.found, ⟨by omega, hf2⟩, hok.size⟩
  obtain ⟨r1, r2, r3, r4⟩ := k.det (.ok hok' hx')
  exact ⟨r1, r2, r3, r4⟩
end
end Go.Proofs.YtdedkpfbfklgbaaGreat
namespace Go.Proofs.YtdedkpfbfklgbaaGreat
open Go.RowKit Go.SX
set_option maxRecDepth 100000
set_option maxHeartbeats 4000000
set_option linter.unusedVariables false
set_option linter.unusedSimpArgs false
variable {X : RG} {F R : Nat} {sig : ByteArray → Option Nat} {B : Blk} {m : MS} {bk : RK}
def RPost (X : RG) (F R : Nat) (sig : ByteArray → Option Nat) (B : Blk) (T : Task) (m : MS) : AEnd → AH → Prop := fun x h => ∃ o m' bk', Ex X.E T m o m' ∧ RFit X F R sig B m' bk' ∧ h = m'.rah X bk' (o.getD 0) ∧ x = .ret (.tup [])
theorem RPost.of_a {s : GStmt} (hp : isPrim s.Kind) {f : FuncId} {args : List AV} (h : Tri Tryz.prog f args (m.rah X bk 0) (APost X F R sig B (prim X.n s m))) : Tri Tryz.prog f args (m.rah X bk 0) (RPost X F R sig B (.s s) m) :=
  h.mono fun x a ⟨bk', h1, h2, h3⟩ => ⟨none, _, bk', .prim hp, h1, h2, h3⟩
theorem arr_12 (hX : RSt X F R sig) (hm : RFit X F R sig B m bk) (s : GStmt) (hs : Fit F R sig s) (hk : s.Kind = 12) {n : Int} (hA : arOf X.c.Arrays s.Name = some n) :
    Tri Tryz.prog 127 [.ref X.mb 0, s.st] (m.rah X bk 0) (RPost X F R sig B (.s s) m) := by
  have hal := hX.al
  obtain ⟨j, a, b, f1, f2, f3, f4, f5⟩ := arr_find hX hA
  have hF := ref_find X.c.Arrays s.Name (by omega)
  have hF2 := ref_find X.c.Arrays s.From (by omega)
  rw [f1] at hF
  by_cases hg : (X.G.length : Int) - m.used < (m.rels s.Name).length
  · have hG := ref_guess_bad hX hm hA f2 f3 f4 f5 hg
    have hE : Ex X.E (.s s) m (some 2) m := .gbad hk hg
    obtain ⟨kd, sf, sg, sr, sn, snm, sfr, slit, sregs, sbody, sels⟩ := s
    simp only at hk hF hF2
    subst hk
    refine Tri.enter 143 Tryz.func127 rfl rfl rfl rfl fun Fr w0 => ?_
    repeat' (first | (refine AW.r 0 ?_ <;> (first | refine AL.d (AOp.box_ro (v := .st [.int .i64 12, .int .i64 sf, .int .i64 sg, .int .i64 sr, .int .i64 sn, .str snm, .str sfr, slit.av, ints sregs, .sl (sbody.map GStmt.av), .sl (sels.map GStmt.av)]) rfl rfl) ?_ | refine AL.d (AOp.box_ro rfl rfl) ?_) <;> refine AL.nil ?_) | (refine AW.dq 1 ?_ <;> refine AQ.es 2 ?_ <;> (first | refine AQ.p rfl AOp.fa ?_ | refine AQ.p rfl (AOp.fr 0) ?_) <;> (first | refine AQ.p rfl AOp.fa ?_ | refine AQ.p rfl (AOp.fr 2) ?_) <;> (first | refine AQ.p rfl AOp.la ?_ | refine AQ.p rfl (AOp.ll 0) ?_) <;> (first | refine AQ.p rfl AOp.fa ?_ | refine AQ.p rfl (AOp.fr 5) ?_) <;> (first | refine AQ.p rfl AOp.la ?_ | refine AQ.p rfl (AOp.ll 0) ?_) <;> (first | refine AQ.p rfl (AOp.call rfl rfl (hF.pure _)) ?_ | refine AQ.p rfl (AOp.call rfl rfl (hF2.pure _)) ?_ | refine AQ.p rfl (AOp.call rfl rfl hG) ?_) <;> refine AQ.es 2 ?_ <;> (first | refine AQ.p rfl AOp.fa ?_ | refine AQ.p rfl (AOp.fr 0) ?_) <;> (first | refine AQ.p rfl AOp.fa ?_ | refine AQ.p rfl (AOp.fr 2) ?_) <;> (first | refine AQ.p rfl AOp.la ?_ | refine AQ.p rfl (AOp.ll 0) ?_) <;> (first | refine AQ.p rfl AOp.fa ?_ | refine AQ.p rfl (AOp.fr 6) ?_) <;> (first | refine AQ.p rfl AOp.la ?_ | refine AQ.p rfl (AOp.ll 0) ?_) <;> (first | refine AQ.p rfl (AOp.call rfl rfl (hF.pure _)) ?_ | refine AQ.p rfl (AOp.call rfl rfl (hF2.pure _)) ?_ | refine AQ.p rfl (AOp.call rfl rfl hG) ?_) <;> refine AQ.es 2 ?_ <;> refine AQ.nil ?_) | (refine AW.r 2 ?_ <;> (first | refine AL.d AOp.fa ?_ | refine AL.d (AOp.fr 0) ?_) <;> (first | refine AL.d AOp.la ?_ | refine AL.d (AOp.ll 0) ?_) <;> refine AL.nil ?_) | refine AW.re 3 2 ?_ | refine AW.re 5 2 ?_ | refine AW.re 7 2 ?_ | (refine AW.r 8 ?_ <;> refine AL.es 2 ?_ <;> (first | refine AL.d (AOp.call rfl rfl (hF.pure _)) ?_ | refine AL.d (AOp.call rfl rfl (hF2.pure _)) ?_ | refine AL.d (AOp.call rfl rfl hG) ?_) <;> refine AL.nil ?_) | refine AW.jt ?_ | refine AW.jf ?_ | refine AW.jj (fun hb => ?_) (fun hb => ?_) | refine AW.go ?_ | fail)
    exact AW.donev rfl ⟨some 2, m, bk, hE, hm, rfl, rfl⟩
  · have hG := ref_guess_ok hX hm hA f2 f3 f4 f5 hg
    have hE : Ex X.E (.s s) m none (m.guess X.E.G s) := .gok hk hg
    have hgs : m.guess X.E.G s = { m with rels := upd m.rels s.Name ((X.G.drop m.used.toNat).take (m.rels s.Name).length), used := m.used + (m.rels s.Name).length } := rfl
    rw [hgs] at hE
    obtain ⟨kd, sf, sg, sr, sn, snm, sfr, slit, sregs, sbody, sels⟩ := s
    simp only at hk hF hF2 hG
    subst hk
    refine Tri.enter 143 Tryz.func127 rfl rfl rfl rfl fun Fr w0 => ?_
    repeat' (first | (refine AW.r 0 ?_ <;> (first | refine AL.d (AOp.box_ro (v := .st [.int .i64 12, .int .i64 sf, .int .i64 sg, .int .i64 sr, .int .i64 sn, .str snm, .str sfr, slit.av, ints sregs, .sl (sbody.map GStmt.av), .sl (sels.map GStmt.av)]) rfl rfl) ?_ | refine AL.d (AOp.box_ro rfl rfl) ?_) <;> refine AL.nil ?_) | (refine AW.dq 1 ?_ <;> refine AQ.es 2 ?_ <;> (first | refine AQ.p rfl AOp.fa ?_ | refine AQ.p rfl (AOp.fr 0) ?_) <;> (first | refine AQ.p rfl AOp.fa ?_ | refine AQ.p rfl (AOp.fr 2) ?_) <;> (first | refine AQ.p rfl AOp.la ?_ | refine AQ.p rfl (AOp.ll 0) ?_) <;> (first | refine AQ.p rfl AOp.fa ?_ | refine AQ.p rfl (AOp.fr 5) ?_) <;> (first | refine AQ.p rfl AOp.la ?_ | refine AQ.p rfl (AOp.ll 0) ?_) <;> (first | refine AQ.p rfl (AOp.call rfl rfl (hF.pure _)) ?_ | refine AQ.p rfl (AOp.call rfl rfl (hF2.pure _)) ?_) <;> refine AQ.es 2 ?_ <;> (first | refine AQ.p rfl AOp.fa ?_ | refine AQ.p rfl (AOp.fr 0) ?_) <;> (first | refine AQ.p rfl AOp.fa ?_ | refine AQ.p rfl (AOp.fr 2) ?_) <;> (first | refine AQ.p rfl AOp.la ?_ | refine AQ.p rfl (AOp.ll 0) ?_) <;> (first | refine AQ.p rfl AOp.fa ?_ | refine AQ.p rfl (AOp.fr 6) ?_) <;> (first | refine AQ.p rfl AOp.la ?_ | refine AQ.p rfl (AOp.ll 0) ?_) <;> (first | refine AQ.p rfl (AOp.call rfl rfl (hF.pure _)) ?_ | refine AQ.p rfl (AOp.call rfl rfl (hF2.pure _)) ?_) <;> refine AQ.es 2 ?_ <;> refine AQ.nil ?_) | (refine AW.r 2 ?_ <;> (first | refine AL.d AOp.fa ?_ | refine AL.d (AOp.fr 0) ?_) <;> (first | refine AL.d AOp.la ?_ | refine AL.d (AOp.ll 0) ?_) <;> refine AL.nil ?_) | refine AW.re 3 2 ?_ | refine AW.re 5 2 ?_ | refine AW.re 7 2 ?_ | (refine AW.r 8 ?_ <;> refine AL.es 2 ?_ <;> (first | ((refine AL.callQ rfl rfl hG rfl ?_ ?_; rotate_left; rintro _ _ ⟨_, _, _, e⟩; cases e; rintro _ _ ⟨bk', hfit, rfl, e⟩; injection e with e; subst e)) | refine AL.d (AOp.call rfl rfl (hF.pure _)) ?_ | refine AL.d (AOp.call rfl rfl (hF2.pure _)) ?_) <;> refine AL.nil ?_) | refine AW.jt ?_ | refine AW.jf ?_ | refine AW.jj (fun hb => ?_) (fun hb => ?_) | refine AW.go ?_ | fail)
    exact AW.donev rfl ⟨none, _, bk', hE, hfit, rfl, rfl⟩
theorem one_0 (hX : RSt X F R sig) (hm : RFit X F R sig B m bk) (s : GStmt) (hs : Fit F R sig s) (hk : s.Kind = 0) (hl : s.Lit.At.length ≤ 4611686018427387904) : Tri Tryz.prog 94 [.ref X.mb 0, s.st] (m.rah X bk 0) (APost X F R sig B (prim X.n s m)) := by
  have hf := hs.f (by rw [hk]; rfl)
  have hfl := hm.mf.flen
  have hlt := hs.lit (by rw [hk]; rfl)
  have hh := ref_holds hX hm s.Lit hl hlt.1 hlt.2
  have hres : prim X.n s m = m.setF s.F (holdsM X.n m s.Lit) := by simp [prim, hk]
  have hfit := hm.flag s.F (holdsM X.n m s.Lit)
  have hset := rah_setflag X m bk 0 s.F (holdsM X.n m s.Lit)
  rw [hres]
  obtain ⟨kd, sf, sg, sr, sn, snm, sfr, slit, sregs, sbody, sels⟩ := s
  simp only at *
  subst hk
  refine Tri.enter 209 Tryz.func94 rfl rfl rfl rfl fun Fr w0 => ?_
  repeat' (first | (refine AW.r 0 ?_ <;> (first | refine AL.d (AOp.box_ro (v := .st [.int .i64 0, .int .i64 sf, .int .i64 sg, .int .i64 sr, .int .i64 sn, .str snm, .str sfr, slit.av, ints sregs, .sl (sbody.map GStmt.av), .sl (sels.map GStmt.av)]) rfl rfl) ?_ | refine AL.d (AOp.box_ro rfl rfl) ?_) <;> refine AL.nil ?_) | (refine AW.r 1 ?_ <;> (first | refine AL.d AOp.fa ?_ | refine AL.d (AOp.fr 0) ?_) <;> (first | refine AL.d AOp.la ?_ | refine AL.d (AOp.ll 0) ?_) <;> refine AL.nil ?_) | refine AW.re 3 2 ?_ | (refine AW.dl 4 11 ?_ <;> refine AQ.es 2 ?_ <;> (first | refine AQ.p rfl AOp.fa ?_ | refine AQ.p rfl (AOp.fr 5) ?_) <;> (first | refine AQ.p rfl AOp.la ?_ | refine AQ.p rfl (AOp.ll 0) ?_) <;> (first | refine AQ.p rfl AOp.fa ?_ | refine AQ.p rfl (AOp.fr 1) ?_) <;> (first | refine AQ.p rfl AOp.la ?_ | refine AQ.p rfl (AOp.ll 0) ?_) <;> refine AQ.es 1 ?_ <;> (first | refine AQ.p rfl AOp.fa ?_ | refine AQ.p rfl (AOp.fr 7) ?_) <;> (first | refine AQ.p rfl AOp.la ?_ | refine AQ.p rfl (AOp.lw 0) ?_) <;> refine AQ.p rfl (AOp.call rfl rfl hh) ?_ <;> refine AQ.p rfl (AOp.index_osl rfl rfl (by omega) (by omega) (by kernel_rfl)) ?_ <;> refine AQ.nil ?_ <;> (first | (refine AL.store_cell 1 rfl rfl rfl (by simp; omega) rfl rfl (by kernel_rfl) ?_) | refine AL.sl 0 ?_) <;> refine AL.nil ?_) | refine AW.jt ?_ | refine AW.jf ?_ | refine AW.jj (fun hb => ?_) (fun hb => ?_) | refine AW.go ?_ | fail)
  exact AW.donev rfl ⟨bk, hfit, hset, rfl⟩
theorem one_1 (hm : RFit X F R sig B m bk) (s : GStmt) (hs : Fit F R sig s) (hk : s.Kind = 1) : Tri Tryz.prog 94 [.ref X.mb 0, s.st] (m.rah X bk 0) (APost X F R sig B (prim X.n s m)) := by
  have hf := hs.f (by rw [hk]; rfl)
  have hfl := hm.mf.flen
  have hg := hs.g (by rw [hk]; rfl) (by omega)
  have g1 := flag_get (fl := m.flags) (x := s.G) (by omega)
  have hres : prim X.n s m = m.setF s.F (!flagAt m.flags s.G) := by simp [prim, hk]
  have hfit := hm.flag s.F (!flagAt m.flags s.G)
  have hset := rah_setflag X m bk 0 s.F (!flagAt m.flags s.G)
  rw [hres]
  obtain ⟨kd, sf, sg, sr, sn, snm, sfr, slit, sregs, sbody, sels⟩ := s
  simp only at *
  subst hk
  refine Tri.enter 209 Tryz.func94 rfl rfl rfl rfl fun Fr w0 => ?_
  repeat' (first | (refine AW.r 0 ?_ <;> (first | refine AL.d (AOp.box_ro (v := .st [.int .i64 1, .int .i64 sf, .int .i64 sg, .int .i64 sr, .int .i64 sn, .str snm, .str sfr, slit.av, ints sregs, .sl (sbody.map GStmt.av), .sl (sels.map GStmt.av)]) rfl rfl) ?_ | refine AL.d (AOp.box_ro rfl rfl) ?_) <;> refine AL.nil ?_) | (refine AW.r 1 ?_ <;> (first | refine AL.d AOp.fa ?_ | refine AL.d (AOp.fr 0) ?_) <;> (first | refine AL.d (AOp.load_cell 1 rfl rfl g1 rfl (by kernel_rfl)) ?_ | refine AL.d AOp.la ?_ | refine AL.d (AOp.ll 0) ?_) <;> refine AL.nil ?_) | refine AW.re 3 2 ?_ | refine AW.re 5 2 ?_ | (refine AW.dl 6 16 ?_ <;> refine AQ.es 2 ?_ <;> (first | refine AQ.p rfl AOp.fa ?_ | refine AQ.p rfl (AOp.fr 5) ?_) <;> (first | refine AQ.p rfl (AOp.load_cell 1 rfl rfl g1 rfl (by kernel_rfl)) ?_ | refine AQ.p rfl AOp.la ?_ | refine AQ.p rfl (AOp.ll 0) ?_) <;> (first | refine AQ.p rfl AOp.fa ?_ | refine AQ.p rfl (AOp.fr 1) ?_) <;> (first | refine AQ.p rfl (AOp.load_cell 1 rfl rfl g1 rfl (by kernel_rfl)) ?_ | refine AQ.p rfl AOp.la ?_ | refine AQ.p rfl (AOp.ll 0) ?_) <;> refine AQ.es 2 ?_ <;> (first | refine AQ.p rfl AOp.fa ?_ | refine AQ.p rfl (AOp.fr 5) ?_) <;> (first | refine AQ.p rfl (AOp.load_cell 1 rfl rfl g1 rfl (by kernel_rfl)) ?_ | refine AQ.p rfl AOp.la ?_ | refine AQ.p rfl (AOp.ll 0) ?_) <;> (first | refine AQ.p rfl AOp.fa ?_ | refine AQ.p rfl (AOp.fr 2) ?_) <;> (first | refine AQ.p rfl (AOp.load_cell 1 rfl rfl g1 rfl (by kernel_rfl)) ?_ | refine AQ.p rfl AOp.la ?_ | refine AQ.p rfl (AOp.ll 0) ?_) <;> refine AQ.p rfl (AOp.index_osl rfl rfl (by omega) (by omega) (by kernel_rfl)) ?_ <;> (first | refine AQ.p rfl (AOp.load_cell 1 rfl rfl g1 rfl (by kernel_rfl)) ?_ | refine AQ.p rfl AOp.la ?_ | refine AQ.p rfl (AOp.ll 0) ?_) <;> refine AQ.es 1 ?_ <;> refine AQ.p rfl (AOp.index_osl rfl rfl (by omega) (by omega) (by kernel_rfl)) ?_ <;> refine AQ.nil ?_ <;> (first | (refine AL.store_cell 1 rfl rfl rfl (by simp; omega) rfl rfl (by kernel_rfl) ?_) | refine AL.sl 0 ?_) <;> refine AL.nil ?_) | refine AW.jt ?_ | refine AW.jf ?_ | refine AW.jj (fun hb => ?_) (fun hb => ?_) | refine AW.go ?_ | fail)
  exact AW.donev rfl ⟨bk, hfit, hset, rfl⟩
theorem one_2 (hm : RFit X F R sig B m bk) (s : GStmt) (hs : Fit F R sig s) (hk : s.Kind = 2) : Tri Tryz.prog 94 [.ref X.mb 0, s.st] (m.rah X bk 0) (APost X F R sig B (prim X.n s m)) := by
  have hf := hs.f (by rw [hk]; rfl)
  have hfl := hm.mf.flen
  have hg := hs.g (by rw [hk]; rfl) (by omega)
  have g1 := flag_get (fl := m.flags) (x := s.G) (by omega)
  have g0 := flag_get (fl := m.flags) (x := s.F) (by omega)
  have hres : prim X.n s m = m.setF s.F (flagAt m.flags s.F && flagAt m.flags s.G) := by simp [prim, hk]
  have hfit := hm.flag s.F (flagAt m.flags s.F && flagAt m.flags s.G)
  have hset := rah_setflag X m bk 0 s.F (flagAt m.flags s.F && flagAt m.flags s.G)
  rw [hres]
  cases e0 : flagAt m.flags s.F <;> rw [e0] at g0 hfit hset
  all_goals
    obtain ⟨kd, sf, sg, sr, sn, snm, sfr, slit, sregs, sbody, sels⟩ := s
    simp only at *
    subst hk
    refine Tri.enter 209 Tryz.func94 rfl rfl rfl rfl fun Fr w0 => ?_
    repeat' (first | (refine AW.r 0 ?_ <;> (first | refine AL.d (AOp.box_ro (v := .st [.int .i64 2, .int .i64 sf, .int .i64 sg, .int .i64 sr, .int .i64 sn, .str snm, .str sfr, slit.av, ints sregs, .sl (sbody.map GStmt.av), .sl (sels.map GStmt.av)]) rfl rfl) ?_ | refine AL.d (AOp.box_ro rfl rfl) ?_) <;> refine AL.nil ?_) | (refine AW.r 1 ?_ <;> (first | refine AL.d AOp.fa ?_ | refine AL.d (AOp.fr 0) ?_) <;> (first | refine AL.d (AOp.load_cell 1 rfl rfl g0 rfl (by kernel_rfl)) ?_ | refine AL.d (AOp.load_cell 1 rfl rfl g1 rfl (by kernel_rfl)) ?_ | refine AL.d AOp.la ?_ | refine AL.d (AOp.ll 0) ?_) <;> refine AL.nil ?_) | refine AW.re 3 2 ?_ | refine AW.re 5 2 ?_ | refine AW.re 7 2 ?_ | (refine AW.dl 8 25 ?_ <;> refine AQ.es 2 ?_ <;> (first | refine AQ.p rfl AOp.fa ?_ | refine AQ.p rfl (AOp.fr 5) ?_) <;> (first | refine AQ.p rfl (AOp.load_cell 1 rfl rfl g0 rfl (by kernel_rfl)) ?_ | refine AQ.p rfl (AOp.load_cell 1 rfl rfl g1 rfl (by kernel_rfl)) ?_ | refine AQ.p rfl AOp.la ?_ | refine AQ.p rfl (AOp.ll 0) ?_) <;> (first | refine AQ.p rfl AOp.fa ?_ | refine AQ.p rfl (AOp.fr 1) ?_) <;> (first | refine AQ.p rfl (AOp.load_cell 1 rfl rfl g0 rfl (by kernel_rfl)) ?_ | refine AQ.p rfl (AOp.load_cell 1 rfl rfl g1 rfl (by kernel_rfl)) ?_ | refine AQ.p rfl AOp.la ?_ | refine AQ.p rfl (AOp.ll 0) ?_) <;> refine AQ.es 2 ?_ <;> (first | refine AQ.p rfl AOp.fa ?_ | refine AQ.p rfl (AOp.fr 5) ?_) <;> (first | refine AQ.p rfl (AOp.load_cell 1 rfl rfl g0 rfl (by kernel_rfl)) ?_ | refine AQ.p rfl (AOp.load_cell 1 rfl rfl g1 rfl (by kernel_rfl)) ?_ | refine AQ.p rfl AOp.la ?_ | refine AQ.p rfl (AOp.ll 0) ?_) <;> (first | refine AQ.p rfl AOp.fa ?_ | refine AQ.p rfl (AOp.fr 1) ?_) <;> (first | refine AQ.p rfl (AOp.load_cell 1 rfl rfl g0 rfl (by kernel_rfl)) ?_ | refine AQ.p rfl (AOp.load_cell 1 rfl rfl g1 rfl (by kernel_rfl)) ?_ | refine AQ.p rfl AOp.la ?_ | refine AQ.p rfl (AOp.ll 0) ?_) <;> refine AQ.p rfl (AOp.index_osl rfl rfl (by omega) (by omega) (by kernel_rfl)) ?_ <;> (first | refine AQ.p rfl (AOp.load_cell 1 rfl rfl g0 rfl (by kernel_rfl)) ?_ | refine AQ.p rfl (AOp.load_cell 1 rfl rfl g1 rfl (by kernel_rfl)) ?_ | refine AQ.p rfl AOp.la ?_ | refine AQ.p rfl (AOp.ll 0) ?_) <;> refine AQ.es 1 ?_ <;> (first | refine AQ.es 2 ?_ | (refine AQ.y (fun hb => ?_) (fun hb => ?_) <;> refine AQ.es 2 ?_)) <;> (first | refine AQ.gp rfl AOp.fa ?_ | refine AQ.gp rfl (AOp.fr 5) ?_ | refine AQ.k ?_) <;> (first | refine AQ.gp rfl (AOp.load_cell 1 rfl rfl g0 rfl (by kernel_rfl)) ?_ | refine AQ.gp rfl (AOp.load_cell 1 rfl rfl g1 rfl (by kernel_rfl)) ?_ | refine AQ.gp rfl AOp.la ?_ | refine AQ.gp rfl (AOp.ll 0) ?_ | refine AQ.k ?_) <;> (first | refine AQ.gp rfl AOp.fa ?_ | refine AQ.gp rfl (AOp.fr 2) ?_ | refine AQ.k ?_) <;> (first | refine AQ.gp rfl (AOp.load_cell 1 rfl rfl g0 rfl (by kernel_rfl)) ?_ | refine AQ.gp rfl (AOp.load_cell 1 rfl rfl g1 rfl (by kernel_rfl)) ?_ | refine AQ.gp rfl AOp.la ?_ | refine AQ.gp rfl (AOp.ll 0) ?_ | refine AQ.k ?_) <;> (first | refine AQ.gp rfl (AOp.index_osl rfl rfl (by omega) (by omega) (by kernel_rfl)) ?_ | refine AQ.k ?_) <;> (first | refine AQ.gp rfl (AOp.load_cell 1 rfl rfl g0 rfl (by kernel_rfl)) ?_ | refine AQ.gp rfl (AOp.load_cell 1 rfl rfl g1 rfl (by kernel_rfl)) ?_ | refine AQ.gp rfl AOp.la ?_ | refine AQ.gp rfl (AOp.ll 0) ?_ | refine AQ.k ?_) <;> refine AQ.es 1 ?_ <;> refine AQ.p rfl (AOp.index_osl rfl rfl (by omega) (by omega) (by kernel_rfl)) ?_ <;> refine AQ.nil ?_ <;> (first | (refine AL.store_cell 1 rfl rfl rfl (by simp; omega) rfl rfl (by kernel_rfl) ?_) | refine AL.sl 0 ?_) <;> refine AL.nil ?_) | refine AW.jt ?_ | refine AW.jf ?_ | refine AW.jj (fun hb => ?_) (fun hb => ?_) | refine AW.go ?_ | fail)
    exact AW.donev rfl ⟨bk, hfit, hset, rfl⟩
theorem one_3 (hm : RFit X F R sig B m bk) (s : GStmt) (hs : Fit F R sig s) (hk : s.Kind = 3) : Tri Tryz.prog 94 [.ref X.mb 0, s.st] (m.rah X bk 0) (APost X F R sig B (prim X.n s m)) := by
  have hf := hs.f (by rw [hk]; rfl)
  have hfl := hm.mf.flen
  have hg := hs.g (by rw [hk]; rfl) (by omega)
  have g1 := flag_get (fl := m.flags) (x := s.G) (by omega)
  have g0 := flag_get (fl := m.flags) (x := s.F) (by omega)
  have hres : prim X.n s m = m.setF s.F (flagAt m.flags s.F || flagAt m.flags s.G) := by simp [prim, hk]
  have hfit := hm.flag s.F (flagAt m.flags s.F || flagAt m.flags s.G)
  have hset := rah_setflag X m bk 0 s.F (flagAt m.flags s.F || flagAt m.flags s.G)
  rw [hres]
  cases e0 : flagAt m.flags s.F <;> rw [e0] at g0 hfit hset
  all_goals
    obtain ⟨kd, sf, sg, sr, sn, snm, sfr, slit, sregs, sbody, sels⟩ := s
    simp only at *
    subst hk
    refine Tri.enter 209 Tryz.func94 rfl rfl rfl rfl fun Fr w0 => ?_
    repeat' (first | (refine AW.r 0 ?_ <;> (first | refine AL.d (AOp.box_ro (v := .st [.int .i64 3, .int .i64 sf, .int .i64 sg, .int .i64 sr, .int .i64 sn, .str snm, .str sfr, slit.av, ints sregs, .sl (sbody.map GStmt.av), .sl (sels.map GStmt.av)]) rfl rfl) ?_ | refine AL.d (AOp.box_ro rfl rfl) ?_) <;> refine AL.nil ?_) | (refine AW.r 1 ?_ <;> (first | refine AL.d AOp.fa ?_ | refine AL.d (AOp.fr 0) ?_) <;> (first | refine AL.d (AOp.load_cell 1 rfl rfl g0 rfl (by kernel_rfl)) ?_ | refine AL.d (AOp.load_cell 1 rfl rfl g1 rfl (by kernel_rfl)) ?_ | refine AL.d AOp.la ?_ | refine AL.d (AOp.ll 0) ?_) <;> refine AL.nil ?_) | refine AW.re 3 2 ?_ | refine AW.re 5 2 ?_ | refine AW.re 7 2 ?_ | refine AW.re 9 2 ?_ | (refine AW.dl 10 25 ?_ <;> refine AQ.es 2 ?_ <;> (first | refine AQ.p rfl AOp.fa ?_ | refine AQ.p rfl (AOp.fr 5) ?_) <;> (first | refine AQ.p rfl (AOp.load_cell 1 rfl rfl g0 rfl (by kernel_rfl)) ?_ | refine AQ.p rfl (AOp.load_cell 1 rfl rfl g1 rfl (by kernel_rfl)) ?_ | refine AQ.p rfl AOp.la ?_ | refine AQ.p rfl (AOp.ll 0) ?_) <;> (first | refine AQ.p rfl AOp.fa ?_ | refine AQ.p rfl (AOp.fr 1) ?_) <;> (first | refine AQ.p rfl (AOp.load_cell 1 rfl rfl g0 rfl (by kernel_rfl)) ?_ | refine AQ.p rfl (AOp.load_cell 1 rfl rfl g1 rfl (by kernel_rfl)) ?_ | refine AQ.p rfl AOp.la ?_ | refine AQ.p rfl (AOp.ll 0) ?_) <;> refine AQ.es 2 ?_ <;> (first | refine AQ.p rfl AOp.fa ?_ | refine AQ.p rfl (AOp.fr 5) ?_) <;> (first | refine AQ.p rfl (AOp.load_cell 1 rfl rfl g0 rfl (by kernel_rfl)) ?_ | refine AQ.p rfl (AOp.load_cell 1 rfl rfl g1 rfl (by kernel_rfl)) ?_ | refine AQ.p rfl AOp.la ?_ | refine AQ.p rfl (AOp.ll 0) ?_) <;> (first | refine AQ.p rfl AOp.fa ?_ | refine AQ.p rfl (AOp.fr 1) ?_) <;> (first | refine AQ.p rfl (AOp.load_cell 1 rfl rfl g0 rfl (by kernel_rfl)) ?_ | refine AQ.p rfl (AOp.load_cell 1 rfl rfl g1 rfl (by kernel_rfl)) ?_ | refine AQ.p rfl AOp.la ?_ | refine AQ.p rfl (AOp.ll 0) ?_) <;> refine AQ.p rfl (AOp.index_osl rfl rfl (by omega) (by omega) (by kernel_rfl)) ?_ <;> (first | refine AQ.p rfl (AOp.load_cell 1 rfl rfl g0 rfl (by kernel_rfl)) ?_ | refine AQ.p rfl (AOp.load_cell 1 rfl rfl g1 rfl (by kernel_rfl)) ?_ | refine AQ.p rfl AOp.la ?_ | refine AQ.p rfl (AOp.ll 0) ?_) <;> refine AQ.es 1 ?_ <;> (first | refine AQ.es 2 ?_ | (refine AQ.y (fun hb => ?_) (fun hb => ?_) <;> refine AQ.es 2 ?_)) <;> (first | refine AQ.gp rfl AOp.fa ?_ | refine AQ.gp rfl (AOp.fr 5) ?_ | refine AQ.k ?_) <;> (first | refine AQ.gp rfl (AOp.load_cell 1 rfl rfl g0 rfl (by kernel_rfl)) ?_ | refine AQ.gp rfl (AOp.load_cell 1 rfl rfl g1 rfl (by kernel_rfl)) ?_ | refine AQ.gp rfl AOp.la ?_ | refine AQ.gp rfl (AOp.ll 0) ?_ | refine AQ.k ?_) <;> (first | refine AQ.gp rfl AOp.fa ?_ | refine AQ.gp rfl (AOp.fr 2) ?_ | refine AQ.k ?_) <;> (first | refine AQ.gp rfl (AOp.load_cell 1 rfl rfl g0 rfl (by kernel_rfl)) ?_ | refine AQ.gp rfl (AOp.load_cell 1 rfl rfl g1 rfl (by kernel_rfl)) ?_ | refine AQ.gp rfl AOp.la ?_ | refine AQ.gp rfl (AOp.ll 0) ?_ | refine AQ.k ?_) <;> (first | refine AQ.gp rfl (AOp.index_osl rfl rfl (by omega) (by omega) (by kernel_rfl)) ?_ | refine AQ.k ?_) <;> (first | refine AQ.gp rfl (AOp.load_cell 1 rfl rfl g0 rfl (by kernel_rfl)) ?_ | refine AQ.gp rfl (AOp.load_cell 1 rfl rfl g1 rfl (by kernel_rfl)) ?_ | refine AQ.gp rfl AOp.la ?_ | refine AQ.gp rfl (AOp.ll 0) ?_ | refine AQ.k ?_) <;> refine AQ.es 1 ?_ <;> refine AQ.p rfl (AOp.index_osl rfl rfl (by omega) (by omega) (by kernel_rfl)) ?_ <;> refine AQ.nil ?_ <;> (first | (refine AL.store_cell 1 rfl rfl rfl (by simp; omega) rfl rfl (by kernel_rfl) ?_) | refine AL.sl 0 ?_) <;> refine AL.nil ?_) | refine AW.jt ?_ | refine AW.jf ?_ | refine AW.jj (fun hb => ?_) (fun hb => ?_) | refine AW.go ?_ | fail)
    exact AW.donev rfl ⟨bk, hfit, hset, rfl⟩
theorem one_4 (hm : RFit X F R sig B m bk) (s : GStmt) (hs : Fit F R sig s) (hk : s.Kind = 4) : Tri Tryz.prog 94 [.ref X.mb 0, s.st] (m.rah X bk 0) (APost X F R sig B (prim X.n s m)) := by
  have hf := hs.f (by rw [hk]; rfl)
  have hfl := hm.mf.flen
  have hres : prim X.n s m = m.setF s.F (decide (s.G = 1)) := by simp [prim, hk]
  have hfit := hm.flag s.F (decide (s.G = 1))
  have hset := rah_setflag X m bk 0 s.F (decide (s.G = 1))
  rw [hres]
  rw [← ieq] at hset hfit ⊢
  obtain ⟨kd, sf, sg, sr, sn, snm, sfr, slit, sregs, sbody, sels⟩ := s
  simp only at *
  subst hk
  refine Tri.enter 209 Tryz.func94 rfl rfl rfl rfl fun Fr w0 => ?_
  repeat' (first | (refine AW.r 0 ?_ <;> (first | refine AL.d (AOp.box_ro (v := .st [.int .i64 4, .int .i64 sf, .int .i64 sg, .int .i64 sr, .int .i64 sn, .str snm, .str sfr, slit.av, ints sregs, .sl (sbody.map GStmt.av), .sl (sels.map GStmt.av)]) rfl rfl) ?_ | refine AL.d (AOp.box_ro rfl rfl) ?_) <;> refine AL.nil ?_) | (refine AW.r 1 ?_ <;> (first | refine AL.d AOp.fa ?_ | refine AL.d (AOp.fr 0) ?_) <;> (first | refine AL.d AOp.la ?_ | refine AL.d (AOp.ll 0) ?_) <;> refine AL.nil ?_) | refine AW.re 3 2 ?_ | refine AW.re 5 2 ?_ | refine AW.re 7 2 ?_ | refine AW.re 9 2 ?_ | refine AW.re 11 2 ?_ | (refine AW.dl 12 10 ?_ <;> refine AQ.es 2 ?_ <;> (first | refine AQ.p rfl AOp.fa ?_ | refine AQ.p rfl (AOp.fr 5) ?_) <;> (first | refine AQ.p rfl AOp.la ?_ | refine AQ.p rfl (AOp.ll 0) ?_) <;> (first | refine AQ.p rfl AOp.fa ?_ | refine AQ.p rfl (AOp.fr 1) ?_) <;> (first | refine AQ.p rfl AOp.la ?_ | refine AQ.p rfl (AOp.ll 0) ?_) <;> (first | refine AQ.p rfl AOp.fa ?_ | refine AQ.p rfl (AOp.fr 2) ?_) <;> (first | refine AQ.p rfl AOp.la ?_ | refine AQ.p rfl (AOp.ll 0) ?_) <;> refine AQ.es 1 ?_ <;> refine AQ.p rfl (AOp.index_osl rfl rfl (by omega) (by omega) (by kernel_rfl)) ?_ <;> refine AQ.nil ?_ <;> (first | (refine AL.store_cell 1 rfl rfl rfl (by simp; omega) rfl rfl (by kernel_rfl) ?_) | refine AL.sl 0 ?_) <;> refine AL.nil ?_) | refine AW.jt ?_ | refine AW.jf ?_ | refine AW.jj (fun hb => ?_) (fun hb => ?_) | refine AW.go ?_ | fail)
  exact AW.donev rfl ⟨bk, hfit, hset, rfl⟩
theorem one_5 (hm : RFit X F R sig B m bk) (s : GStmt) (hs : Fit F R sig s) (hk : s.Kind = 5) : Tri Tryz.prog 94 [.ref X.mb 0, s.st] (m.rah X bk 0) (APost X F R sig B (prim X.n s m)) := by
  have hf := hs.f (by rw [hk]; rfl)
  have hfl := hm.mf.flen
  have hg := hs.g (by rw [hk]; rfl) (by omega)
  have g1 := flag_get (fl := m.flags) (x := s.G) (by omega)
  have hres : prim X.n s m = m.setF s.F (flagAt m.flags s.G) := by simp [prim, hk]
  have hfit := hm.flag s.F (flagAt m.flags s.G)
  have hset := rah_setflag X m bk 0 s.F (flagAt m.flags s.G)
  rw [hres]
  obtain ⟨kd, sf, sg, sr, sn, snm, sfr, slit, sregs, sbody, sels⟩ := s
  simp only at *
  subst hk
  refine Tri.enter 209 Tryz.func94 rfl rfl rfl rfl fun Fr w0 => ?_
  repeat' (first | (refine AW.r 0 ?_ <;> (first | refine AL.d (AOp.box_ro (v := .st [.int .i64 5, .int .i64 sf, .int .i64 sg, .int .i64 sr, .int .i64 sn, .str snm, .str sfr, slit.av, ints sregs, .sl (sbody.map GStmt.av), .sl (sels.map GStmt.av)]) rfl rfl) ?_ | refine AL.d (AOp.box_ro rfl rfl) ?_) <;> refine AL.nil ?_) | (refine AW.r 1 ?_ <;> (first | refine AL.d AOp.fa ?_ | refine AL.d (AOp.fr 0) ?_) <;> (first | refine AL.d (AOp.load_cell 1 rfl rfl g1 rfl (by kernel_rfl)) ?_ | refine AL.d AOp.la ?_ | refine AL.d (AOp.ll 0) ?_) <;> refine AL.nil ?_) | refine AW.re 3 2 ?_ | refine AW.re 5 2 ?_ | refine AW.re 7 2 ?_ | refine AW.re 9 2 ?_ | refine AW.re 11 2 ?_ | refine AW.re 13 2 ?_ | (refine AW.dl 14 15 ?_ <;> refine AQ.es 2 ?_ <;> (first | refine AQ.p rfl AOp.fa ?_ | refine AQ.p rfl (AOp.fr 5) ?_) <;> (first | refine AQ.p rfl (AOp.load_cell 1 rfl rfl g1 rfl (by kernel_rfl)) ?_ | refine AQ.p rfl AOp.la ?_ | refine AQ.p rfl (AOp.ll 0) ?_) <;> (first | refine AQ.p rfl AOp.fa ?_ | refine AQ.p rfl (AOp.fr 1) ?_) <;> (first | refine AQ.p rfl (AOp.load_cell 1 rfl rfl g1 rfl (by kernel_rfl)) ?_ | refine AQ.p rfl AOp.la ?_ | refine AQ.p rfl (AOp.ll 0) ?_) <;> refine AQ.es 2 ?_ <;> (first | refine AQ.p rfl AOp.fa ?_ | refine AQ.p rfl (AOp.fr 5) ?_) <;> (first | refine AQ.p rfl (AOp.load_cell 1 rfl rfl g1 rfl (by kernel_rfl)) ?_ | refine AQ.p rfl AOp.la ?_ | refine AQ.p rfl (AOp.ll 0) ?_) <;> (first | refine AQ.p rfl AOp.fa ?_ | refine AQ.p rfl (AOp.fr 2) ?_) <;> (first | refine AQ.p rfl (AOp.load_cell 1 rfl rfl g1 rfl (by kernel_rfl)) ?_ | refine AQ.p rfl AOp.la ?_ | refine AQ.p rfl (AOp.ll 0) ?_) <;> refine AQ.p rfl (AOp.index_osl rfl rfl (by omega) (by omega) (by kernel_rfl)) ?_ <;> (first | refine AQ.p rfl (AOp.load_cell 1 rfl rfl g1 rfl (by kernel_rfl)) ?_ | refine AQ.p rfl AOp.la ?_ | refine AQ.p rfl (AOp.ll 0) ?_) <;> refine AQ.p rfl (AOp.index_osl rfl rfl (by omega) (by omega) (by kernel_rfl)) ?_ <;> refine AQ.nil ?_ <;> (first | (refine AL.store_cell 1 rfl rfl rfl (by simp; omega) rfl rfl (by kernel_rfl) ?_) | refine AL.sl 0 ?_) <;> refine AL.nil ?_) | refine AW.jt ?_ | refine AW.jf ?_ | refine AW.jj (fun hb => ?_) (fun hb => ?_) | refine AW.go ?_ | fail)
  exact AW.donev rfl ⟨bk, hfit, hset, rfl⟩
theorem one_arr (s : GStmt) (hk : s.Kind = 6 ∨ s.Kind = 11 ∨ s.Kind = 12 ∨ s.Kind = 13 ∨ s.Kind = 14) {Φ : AEnd → AH → Prop} (hΦ : ∀ x h, Φ x h → x = .ret (.tup [])) (h : Tri Tryz.prog 127 [.ref X.mb 0, s.st] (m.rah X bk 0) Φ) :
    Tri Tryz.prog 94 [.ref X.mb 0, s.st] (m.rah X bk 0) Φ := by
  obtain ⟨kd, sf, sg, sr, sn, snm, sfr, slit, sregs, sbody, sels⟩ := s
  simp only at hk
  rcases hk with rfl | rfl | rfl | rfl | rfl
  all_goals
    refine Tri.enter 209 Tryz.func94 rfl rfl rfl rfl fun Fr w0 => ?_
    repeat' (first | (refine AW.r 0 ?_ <;> (first | refine AL.d (AOp.box_ro rfl rfl) ?_ | refine AL.d (AOp.box_ro rfl rfl) ?_) <;> refine AL.nil ?_) | (refine AW.r 1 ?_ <;> (first | refine AL.d AOp.fa ?_ | refine AL.d (AOp.fr 0) ?_) <;> (first | refine AL.d AOp.la ?_ | refine AL.d (AOp.ll 0) ?_) <;> refine AL.nil ?_) | refine AW.re 3 2 ?_ | refine AW.re 5 2 ?_ | refine AW.re 7 2 ?_ | refine AW.re 9 2 ?_ | refine AW.re 11 2 ?_ | refine AW.re 13 2 ?_ | refine AW.re 15 2 ?_ | refine AW.re 21 2 ?_ | refine AW.re 25 2 ?_ | refine AW.re 27 2 ?_ | (refine AW.r 2 ?_ <;> refine AL.es 1 ?_ <;> (first | refine AL.d AOp.la ?_ | refine AL.d (AOp.lw 0) ?_) <;> (refine AL.callQ rfl rfl h rfl ?_ ?_; rotate_left; rintro _ _ hh; (have := hΦ _ _ hh); cases this; rintro v ah' hh; have e := hΦ _ _ hh; injection e with e; subst e) <;> refine AL.nil ?_) | refine AW.jt ?_ | refine AW.jf ?_ | refine AW.jj (fun hb => ?_) (fun hb => ?_) | refine AW.go ?_ | fail)
    exact AW.donev rfl hh
end Go.Proofs.YtdedkpfbfklgbaaGreat
namespace Go.Proofs.YtdedkpfbfklgbaaGreat
open Go.RowKit Go.SX
set_option maxRecDepth 100000
set_option maxHeartbeats 4000000
set_option linter.unusedVariables false
set_option linter.unusedSimpArgs false
section
variable {C : Cx} {ds : List Deferred} {ks : List K} {af : AF} {ah : AH} {ops : Array Oper} {rest : List Oper}
theorem AL.callR {X : RG} {F R : Nat} {sig : ByteArray → Option Nat} {B : Blk} {m : MS} {t : Task} {d : Option Tmp} {T : TypeId} {ps : String} {es : Array Edge} {f : FuncId} {y : Operand} {caps : List AV} {xs : Array Operand} {tys : Array TypeId} {args : List AV}
    (hy : aeval af y = some (.fn f caps)) (hx : aevals af xs.toList = some args) (h : Tri C.P f (args ++ caps) ah (RPost X F R sig B t m)) (hd : okDst d C.n = true)
    (hk : ∀ o m' bk', Ex X.E t m o m' → RFit X F R sig B m' bk' → AL C ds ks ops rest (put af d (.tup [])) (m'.rah X bk' (o.getD 0))) : AL C ds ks ops (⟨d, .call ⟨.value y, xs, tys⟩, T, ps, es, none⟩ :: rest) af ah :=
  AL.callQ hy hx h hd (by rintro _ _ ⟨o, m', bk', h1, h2, rfl, e⟩; injection e with e; subst e; exact hk o m' bk' h1 h2) (by rintro _ _ ⟨_, _, _, _, _, _, e⟩; cases e)
end
variable {X : RG} {F R : Nat} {sig : ByteArray → Option Nat} {B : Blk} {m : MS} {bk : RK}
def RAll (X : RG) (F R : Nat) (sig : ByteArray → Option Nat) (B : Blk) (l : List GStmt) : Prop := ∀ m bk, RFit X F R sig B m bk → Tri Tryz.prog 38 [.ref X.mb 0, .sl (l.map GStmt.av)] (m.rah X bk 0) (RPost X F R sig B (.l l) m)
def ROne (X : RG) (F R : Nat) (sig : ByteArray → Option Nat) (B : Blk) (x : GStmt) : Prop := ∀ m bk, RFit X F R sig B m bk → Tri Tryz.prog 94 [.ref X.mb 0, x.st] (m.rah X bk 0) (RPost X F R sig B (.s x) m)
theorem RFit.step (hm : RFit X F R sig B m bk) (h : m.steps < X.fuel) : RFit X F R sig B m.step bk := ⟨hm.mf.step h, hm.ro, hm.cap⟩
theorem RFit.reg (hm : RFit X F R sig B m bk) (r v : Int) (hv : 0 ≤ v ∧ v < X.n) : RFit X F R sig B (m.setR r v) bk := ⟨hm.mf.setR r v hv, hm.ro, hm.cap⟩
theorem ref_run (l : List GStmt) (hl : l.length ≤ 4611686018427387904) (h : ∀ x ∈ l, ROne X F R sig B x) : RAll X F R sig B l := by
  intro m bk hm
  refine Tri.enter 20 Tryz.func38 rfl rfl rfl rfl fun Fr w0 => ?_
  repeat' (first | refine AW.re 0 1 ?_ | refine AW.jt ?_ | refine AW.jf ?_ | refine AW.jj (fun hb => ?_) (fun hb => ?_) | refine AW.go ?_ | fail)
  refine AW.prune [0, 1, 4] (AW.loop (fun mz af h => ∃ (i : Nat) (m1 : MS) (bk1 : RK) (o : Option Int), i ≤ l.length ∧ mz = l.length - i ∧ af = [(0, .ref X.mb 0), (1, .sl (l.map GStmt.av)), (4, .int .i64 i)] ∧ h = m1.rah X bk1 (o.getD 0) ∧ (RFit X F R sig B m1 bk1 ∧ ((o = none ∧ ∀ o' m', Ex X.E (.l (l.drop i)) m1 o' m' → Ex X.E (.l l) m o' m') ∨ ∃ e, o = some e ∧ (e = 7 ∨ e = 2) ∧ Ex X.E (.l l) m (some e) m1))) l.length ⟨0, m, bk, none, Nat.zero_le _, rfl, rfl, rfl, ⟨hm, .inl ⟨rfl, fun _ _ h => h⟩⟩⟩ ?_)
  rintro mz af h ⟨i, m1, bk1, o, hi, rfl, rfl, rfl, he⟩
  refine AW.seq ?_
  by_cases hlt : i < l.length
  all_goals obtain ⟨hf1, he⟩ := he
  · obtain ⟨x, hx⟩ := get_lt hlt
    have hx' : (l.map GStmt.av)[((i : Nat) : Int).toNat]? = some x.st := GStmt.get hx
    have hO := h x (List.mem_of_getElem? hx)
    rcases he with ⟨rfl, he⟩ | ⟨e, rfl, h72, he⟩
    · rw [drop_cons hx] at he
      by_cases hfu : m1.steps < X.fuel
      · have hst := ref_step_ok hf1 hfu
        repeat' (first | refine AW.re 1 4 ?_ | refine AW.jt ?_ | refine AW.jf ?_ | refine AW.jj (fun hb => ?_) (fun hb => ?_) | refine AW.go ?_ | fail)
        all_goals try (exfalso; simp only [decide_eq_true_eq, decide_eq_false_iff_not, List.length_map] at *; omega)
        repeat' (first | (refine AW.r 3 ?_ <;> refine AL.es 1 ?_ <;> refine AL.d (AOp.call rfl rfl hst) ?_ <;> refine AL.es 1 ?_ <;> refine AL.nil ?_) | refine AW.jt ?_ | refine AW.jf ?_ | refine AW.jj (fun hb => ?_) (fun hb => ?_) | refine AW.go ?_ | fail)
        repeat' (first | (refine AW.r 4 ?_ <;> refine AL.es 3 ?_ <;> refine AL.d (AOp.index_sl rfl rfl (by omega) hx' (by kernel_rfl) rfl) ?_ <;> refine AL.es 1 ?_ <;> refine AL.callR rfl rfl (hO m1.step bk1 (hf1.step hfu)) rfl fun o2 m2 bk2 hx2 hf2 => ?_ <;> refine AL.nil ?_) | (refine AW.r 2 ?_ <;> refine AL.es 1 ?_ <;> refine AL.d AOp.ad ?_ <;> refine AL.es 1 ?_ <;> refine AL.nil ?_) | refine AW.jt ?_ | refine AW.jf ?_ | refine AW.jj (fun hb => ?_) (fun hb => ?_) | refine AW.go ?_ | fail)
        cases o2 with
        | none => exact AW.again_keep (l.length - (i + 1)) [0, 1, 4] (by omega) ⟨i + 1, m2, bk2, none, hlt, rfl, rfl, rfl, hf2, .inl ⟨rfl, fun o' m' h' => he _ _ (.cons hfu hx2 h')⟩⟩
        | some e2 => exact AW.again_keep (l.length - (i + 1)) [0, 1, 4] (by omega) ⟨i + 1, m2, bk2, some e2, hlt, rfl, rfl, rfl, hf2, .inr ⟨e2, rfl, hx2.err e2 rfl, he _ _ (.bad hfu hx2)⟩⟩
      · have hst := ref_step_bad hf1 hfu
        repeat' (first | refine AW.re 1 4 ?_ | refine AW.jt ?_ | refine AW.jf ?_ | refine AW.jj (fun hb => ?_) (fun hb => ?_) | refine AW.go ?_ | fail)
        all_goals try (exfalso; simp only [decide_eq_true_eq, decide_eq_false_iff_not, List.length_map] at *; omega)
        repeat' (first | (refine AW.r 3 ?_ <;> refine AL.es 1 ?_ <;> refine AL.d (AOp.call rfl rfl hst) ?_ <;> refine AL.es 1 ?_ <;> refine AL.nil ?_) | refine AW.jt ?_ | refine AW.jf ?_ | refine AW.jj (fun hb => ?_) (fun hb => ?_) | refine AW.go ?_ | fail)
        exact AW.retv rfl ⟨some 7, m1, bk1, he _ _ (.stop hfu), hf1, rfl, rfl⟩
    · have hst := ref_step_err (X := X) (m := m1) (bk := bk1) e (by omega)
      repeat' (first | refine AW.re 1 4 ?_ | refine AW.jt ?_ | refine AW.jf ?_ | refine AW.jj (fun hb => ?_) (fun hb => ?_) | refine AW.go ?_ | fail)
      all_goals try (exfalso; simp only [decide_eq_true_eq, decide_eq_false_iff_not, List.length_map] at *; omega)
      repeat' (first | (refine AW.r 3 ?_ <;> refine AL.es 1 ?_ <;> refine AL.d (AOp.call rfl rfl hst) ?_ <;> refine AL.es 1 ?_ <;> refine AL.nil ?_) | refine AW.jt ?_ | refine AW.jf ?_ | refine AW.jj (fun hb => ?_) (fun hb => ?_) | refine AW.go ?_ | fail)
      exact AW.retv rfl ⟨some e, m1, bk1, he, hf1, rfl, rfl⟩
  · rw [List.drop_eq_nil_of_le (by omega)] at he
    repeat' (first | refine AW.re 1 4 ?_ | refine AW.jt ?_ | refine AW.jf ?_ | refine AW.jj (fun hb => ?_) (fun hb => ?_) | refine AW.go ?_ | fail)
    all_goals try (exfalso; simp only [decide_eq_true_eq, decide_eq_false_iff_not, List.length_map] at *; omega)
    rcases he with ⟨rfl, he⟩ | ⟨e, rfl, h72, he⟩
    · exact AW.donev rfl ⟨none, m1, bk1, he _ _ .nil, hf1, rfl, rfl⟩
    · exact AW.donev rfl ⟨some e, m1, bk1, he, hf1, rfl, rfl⟩
theorem one_if (hm : RFit X F R sig B m bk) (s : GStmt) (hs : Fit F R sig s) (hk : s.Kind = 8) (hb1 : RAll X F R sig B s.Body) (hb2 : RAll X F R sig B s.Else) :
    Tri Tryz.prog 94 [.ref X.mb 0, s.st] (m.rah X bk 0) (RPost X F R sig B (.s s) m) := by
  have hf := hs.f (by rw [hk]; rfl)
  have hfl := hm.mf.flen
  have g0 := flag_get (fl := m.flags) (x := s.F) (by omega)
  have hE : ∀ o m', Ex X.E (.l (if flagAt m.flags s.F = true then s.Body else s.Else)) m o m' → Ex X.E (.s s) m o m' := fun o m' h => .cond hk h
  have hB1 := hb1 m bk hm
  have hB2 := hb2 m bk hm
  cases e0 : flagAt m.flags s.F <;> rw [e0] at g0 hE
  · rw [if_neg (by simp)] at hE
    obtain ⟨kd, sf, sg, sr, sn, snm, sfr, slit, sregs, sbody, sels⟩ := s
    simp only at *
    subst hk
    refine Tri.enter 209 Tryz.func94 rfl rfl rfl rfl fun Fr w0 => ?_
    repeat' (first | (refine AW.r 0 ?_ <;> (first | refine AL.d (AOp.box_ro (v := .st [.int .i64 8, .int .i64 sf, .int .i64 sg, .int .i64 sr, .int .i64 sn, .str snm, .str sfr, slit.av, ints sregs, .sl (sbody.map GStmt.av), .sl (sels.map GStmt.av)]) rfl rfl) ?_ | refine AL.d (AOp.box_ro rfl rfl) ?_) <;> refine AL.nil ?_) | (refine AW.r 1 ?_ <;> (first | refine AL.d AOp.fa ?_ | refine AL.d (AOp.fr 0) ?_) <;> (first | refine AL.d (AOp.load_cell 1 rfl rfl g0 rfl (by kernel_rfl)) ?_ | refine AL.d AOp.la ?_ | refine AL.d (AOp.ll 0) ?_) <;> refine AL.nil ?_) | refine AW.re 3 2 ?_ | refine AW.re 5 2 ?_ | refine AW.re 7 2 ?_ | refine AW.re 9 2 ?_ | refine AW.re 11 2 ?_ | refine AW.re 13 2 ?_ | refine AW.re 15 2 ?_ | refine AW.re 21 2 ?_ | (refine AW.dq 22 ?_ <;> refine AQ.es 2 ?_ <;> (first | refine AQ.p rfl AOp.fa ?_ | refine AQ.p rfl (AOp.fr 5) ?_) <;> (first | refine AQ.p rfl (AOp.load_cell 1 rfl rfl g0 rfl (by kernel_rfl)) ?_ | refine AQ.p rfl AOp.la ?_ | refine AQ.p rfl (AOp.ll 0) ?_) <;> (first | refine AQ.p rfl AOp.fa ?_ | refine AQ.p rfl (AOp.fr 1) ?_) <;> (first | refine AQ.p rfl (AOp.load_cell 1 rfl rfl g0 rfl (by kernel_rfl)) ?_ | refine AQ.p rfl AOp.la ?_ | refine AQ.p rfl (AOp.ll 0) ?_) <;> refine AQ.p rfl (AOp.index_osl rfl rfl (by omega) (by omega) (by kernel_rfl)) ?_ <;> (first | refine AQ.p rfl (AOp.load_cell 1 rfl rfl g0 rfl (by kernel_rfl)) ?_ | refine AQ.p rfl AOp.la ?_ | refine AQ.p rfl (AOp.ll 0) ?_) <;> refine AQ.nil ?_) | (refine AW.r 24 ?_ <;> refine AL.es 1 ?_ <;> (first | refine AL.d AOp.fa ?_ | refine AL.d (AOp.fr 13) ?_) <;> (first | refine AL.d (AOp.load_cell 1 rfl rfl g0 rfl (by kernel_rfl)) ?_ | refine AL.d AOp.la ?_ | refine AL.d (AOp.ll 0) ?_) <;> refine AL.callR rfl rfl hB2 rfl fun o2 m2 bk2 hx2 hf2 => ?_ <;> refine AL.nil ?_) | refine AW.jt ?_ | refine AW.jf ?_ | refine AW.jj (fun hb => ?_) (fun hb => ?_) | refine AW.go ?_ | fail)
    exact AW.donev rfl ⟨o2, m2, bk2, hE _ _ hx2, hf2, rfl, rfl⟩
  · rw [if_pos rfl] at hE
    obtain ⟨kd, sf, sg, sr, sn, snm, sfr, slit, sregs, sbody, sels⟩ := s
    simp only at *
    subst hk
    refine Tri.enter 209 Tryz.func94 rfl rfl rfl rfl fun Fr w0 => ?_
    repeat' (first | (refine AW.r 0 ?_ <;> (first | refine AL.d (AOp.box_ro (v := .st [.int .i64 8, .int .i64 sf, .int .i64 sg, .int .i64 sr, .int .i64 sn, .str snm, .str sfr, slit.av, ints sregs, .sl (sbody.map GStmt.av), .sl (sels.map GStmt.av)]) rfl rfl) ?_ | refine AL.d (AOp.box_ro rfl rfl) ?_) <;> refine AL.nil ?_) | (refine AW.r 1 ?_ <;> (first | refine AL.d AOp.fa ?_ | refine AL.d (AOp.fr 0) ?_) <;> (first | refine AL.d (AOp.load_cell 1 rfl rfl g0 rfl (by kernel_rfl)) ?_ | refine AL.d AOp.la ?_ | refine AL.d (AOp.ll 0) ?_) <;> refine AL.nil ?_) | refine AW.re 3 2 ?_ | refine AW.re 5 2 ?_ | refine AW.re 7 2 ?_ | refine AW.re 9 2 ?_ | refine AW.re 11 2 ?_ | refine AW.re 13 2 ?_ | refine AW.re 15 2 ?_ | refine AW.re 21 2 ?_ | (refine AW.dq 22 ?_ <;> refine AQ.es 2 ?_ <;> (first | refine AQ.p rfl AOp.fa ?_ | refine AQ.p rfl (AOp.fr 5) ?_) <;> (first | refine AQ.p rfl (AOp.load_cell 1 rfl rfl g0 rfl (by kernel_rfl)) ?_ | refine AQ.p rfl AOp.la ?_ | refine AQ.p rfl (AOp.ll 0) ?_) <;> (first | refine AQ.p rfl AOp.fa ?_ | refine AQ.p rfl (AOp.fr 1) ?_) <;> (first | refine AQ.p rfl (AOp.load_cell 1 rfl rfl g0 rfl (by kernel_rfl)) ?_ | refine AQ.p rfl AOp.la ?_ | refine AQ.p rfl (AOp.ll 0) ?_) <;> refine AQ.p rfl (AOp.index_osl rfl rfl (by omega) (by omega) (by kernel_rfl)) ?_ <;> (first | refine AQ.p rfl (AOp.load_cell 1 rfl rfl g0 rfl (by kernel_rfl)) ?_ | refine AQ.p rfl AOp.la ?_ | refine AQ.p rfl (AOp.ll 0) ?_) <;> refine AQ.nil ?_) | (refine AW.r 23 ?_ <;> refine AL.es 1 ?_ <;> (first | refine AL.d AOp.fa ?_ | refine AL.d (AOp.fr 12) ?_) <;> (first | refine AL.d (AOp.load_cell 1 rfl rfl g0 rfl (by kernel_rfl)) ?_ | refine AL.d AOp.la ?_ | refine AL.d (AOp.ll 0) ?_) <;> refine AL.callR rfl rfl hB1 rfl fun o2 m2 bk2 hx2 hf2 => ?_ <;> refine AL.nil ?_) | refine AW.jt ?_ | refine AW.jf ?_ | refine AW.jj (fun hb => ?_) (fun hb => ?_) | refine AW.go ?_ | fail)
    exact AW.donev rfl ⟨o2, m2, bk2, hE _ _ hx2, hf2, rfl, rfl⟩
theorem one_each (hm : RFit X F R sig B m bk) (s : GStmt) (hs : Fit F R sig s) (hk : s.Kind = 7) (hb1 : RAll X F R sig B s.Body) :
    Tri Tryz.prog 94 [.ref X.mb 0, s.st] (m.rah X bk 0) (RPost X F R sig B (.s s) m) := by
  have hr := hs.r (by rw [hk]; rfl)
  have hn := hm.mf.n
  simp only [RG.E] at hn
  have hE : ∀ o m', Ex X.E (.e s.R s.Body 0) m o m' → Ex X.E (.s s) m o m' := fun o m' h => .each hk h
  obtain ⟨kd, sf, sg, sr, sn, snm, sfr, slit, sregs, sbody, sels⟩ := s
  simp only at *
  subst hk
  refine Tri.enter 209 Tryz.func94 rfl rfl rfl rfl fun Fr w0 => ?_
  repeat' (first | (refine AW.r 0 ?_ <;> (first | refine AL.d (AOp.box_ro (v := .st [.int .i64 7, .int .i64 sf, .int .i64 sg, .int .i64 sr, .int .i64 sn, .str snm, .str sfr, slit.av, ints sregs, .sl (sbody.map GStmt.av), .sl (sels.map GStmt.av)]) rfl rfl) ?_ | refine AL.d (AOp.box_ro rfl rfl) ?_) <;> refine AL.nil ?_) | (refine AW.r 1 ?_ <;> (first | refine AL.d AOp.fa ?_ | refine AL.d (AOp.fr 0) ?_) <;> (first | refine AL.d AOp.la ?_ | refine AL.d (AOp.ll 0) ?_) <;> refine AL.nil ?_) | refine AW.re 3 2 ?_ | refine AW.re 5 2 ?_ | refine AW.re 7 2 ?_ | refine AW.re 9 2 ?_ | refine AW.re 11 2 ?_ | refine AW.re 13 2 ?_ | refine AW.re 15 2 ?_ | refine AW.re 16 1 ?_ | refine AW.jt ?_ | refine AW.jf ?_ | refine AW.jj (fun hb => ?_) (fun hb => ?_) | refine AW.go ?_ | fail)
  refine AW.prune [0, 3, 4] (AW.loop (fun mz af h => ∃ (i : Nat) (m1 : MS) (bk1 : RK) (o : Option Int), i ≤ X.n.toNat ∧ mz = X.n.toNat - i ∧ af = [(0, .ref X.mb 0), (3, .at (.st [.int .i64 7, .int .i64 sf, .int .i64 sg, .int .i64 sr, .int .i64 sn, .str snm, .str sfr, slit.av, ints sregs, .sl (sbody.map GStmt.av), .sl (sels.map GStmt.av)])), (4, .int .i64 i)] ∧ h = m1.rah X bk1 (o.getD 0) ∧ (RFit X F R sig B m1 bk1 ∧ ((o = none ∧ ∀ o' m', Ex X.E (.e sr sbody i) m1 o' m' → Ex X.E (.e sr sbody 0) m o' m') ∨ ∃ e, o = some e ∧ (e = 7 ∨ e = 2) ∧ Ex X.E (.e sr sbody 0) m (some e) m1))) X.n.toNat ⟨0, m, bk, none, Nat.zero_le _, rfl, rfl, rfl, ⟨hm, .inl ⟨rfl, fun _ _ h => h⟩⟩⟩ ?_)
  rintro mz af h ⟨i, m1, bk1, o, hi, rfl, rfl, rfl, he⟩
  refine AW.seq ?_
  by_cases hlt : i < X.n.toNat
  all_goals obtain ⟨hf1, he⟩ := he
  · rcases he with ⟨rfl, he⟩ | ⟨e, rfl, h72, he⟩
    · have hrl := hf1.mf.rlen
      have hset := rah_setreg X m1 bk1 0 sr i
      have hin : (i : Int) < X.n := by omega
      have hB := hb1 (m1.setR sr i) bk1 (hf1.reg sr i (by omega))
      repeat' (first | (refine AW.r 17 ?_ <;> refine AL.es 3 ?_ <;> (first | refine AL.d AOp.fa ?_ | refine AL.d (AOp.fr 4) ?_) <;> (first | refine AL.d AOp.la ?_ | refine AL.d (AOp.ll 0) ?_) <;> refine AL.es 2 ?_ <;> (first | refine AL.es 2 ?_ | (refine AL.gx (fun hb => ?_) (fun hb => ?_) <;> refine AL.es 2 ?_)) <;> (first | (refine AL.gd ?_; (first | refine AL.d AOp.fa ?_ | refine AL.d (AOp.fr 13) ?_)) | refine AL.gs ?_ | refine AL.gu ?_) <;> (first | (refine AL.gd ?_; (first | refine AL.d AOp.la ?_ | refine AL.d (AOp.ll 0) ?_)) | refine AL.gs ?_ | refine AL.gu ?_) <;> refine AL.es 2 ?_ <;> refine AL.nil ?_) | refine AW.jt ?_ | refine AW.jf ?_ | refine AW.jj (fun hb => ?_) (fun hb => ?_) | refine AW.go ?_ | fail)
      all_goals try (exfalso; simp only [decide_eq_true_eq, decide_eq_false_iff_not] at *; omega)
      repeat' (first | (refine AW.dl 19 8 ?_ <;> refine AQ.es 2 ?_ <;> (first | refine AQ.p rfl AOp.fa ?_ | refine AQ.p rfl (AOp.fr 6) ?_) <;> (first | refine AQ.p rfl AOp.la ?_ | refine AQ.p rfl (AOp.ll 0) ?_) <;> (first | refine AQ.p rfl AOp.fa ?_ | refine AQ.p rfl (AOp.fr 3) ?_) <;> (first | refine AQ.p rfl AOp.la ?_ | refine AQ.p rfl (AOp.ll 0) ?_) <;> refine AQ.es 1 ?_ <;> refine AQ.p rfl (AOp.index_osl rfl rfl (by omega) (by omega) (by kernel_rfl)) ?_ <;> refine AQ.nil ?_ <;> (first | (refine AL.store_cell 2 rfl rfl rfl (by simp; omega) rfl rfl (by kernel_rfl) ?_) | refine AL.sl 0 ?_) <;> refine AL.nil ?_) | refine AW.jt ?_ | refine AW.jf ?_ | refine AW.jj (fun hb => ?_) (fun hb => ?_) | refine AW.go ?_ | fail)
      refine AW.frame_eq rfl hset ?_
      repeat' (first | (refine AW.r 20 ?_ <;> refine AL.es 1 ?_ <;> (first | refine AL.d AOp.fa ?_ | refine AL.d (AOp.fr 12) ?_) <;> (first | refine AL.d AOp.la ?_ | refine AL.d (AOp.ll 0) ?_) <;> refine AL.callR rfl rfl hB rfl fun o2 m2 bk2 hx2 hf2 => ?_ <;> refine AL.nil ?_) | (refine AW.r 18 ?_ <;> refine AL.es 1 ?_ <;> refine AL.d AOp.ad ?_ <;> refine AL.es 1 ?_ <;> refine AL.nil ?_) | refine AW.jt ?_ | refine AW.jf ?_ | refine AW.jj (fun hb => ?_) (fun hb => ?_) | refine AW.go ?_ | fail)
      cases o2 with
      | none => exact AW.again_keep (X.n.toNat - (i + 1)) [0, 3, 4] (by omega) ⟨i + 1, m2, bk2, none, hlt, rfl, rfl, rfl, hf2, .inl ⟨rfl, fun o' m' h' => he _ _ (.estep hin hx2 h')⟩⟩
      | some e2 => exact AW.again_keep (X.n.toNat - (i + 1)) [0, 3, 4] (by omega) ⟨i + 1, m2, bk2, some e2, hlt, rfl, rfl, rfl, hf2, .inr ⟨e2, rfl, hx2.err e2 rfl, he _ _ (.ebad hin hx2)⟩⟩
    · rcases h72 with rfl | rfl
      all_goals
        repeat' (first | (refine AW.r 17 ?_ <;> refine AL.es 3 ?_ <;> (first | refine AL.d AOp.fa ?_ | refine AL.d (AOp.fr 4) ?_) <;> (first | refine AL.d AOp.la ?_ | refine AL.d (AOp.ll 0) ?_) <;> refine AL.es 2 ?_ <;> (first | refine AL.es 2 ?_ | (refine AL.gx (fun hb => ?_) (fun hb => ?_) <;> refine AL.es 2 ?_)) <;> (first | (refine AL.gd ?_; (first | refine AL.d AOp.fa ?_ | refine AL.d (AOp.fr 13) ?_)) | refine AL.gs ?_ | refine AL.gu ?_) <;> (first | (refine AL.gd ?_; (first | refine AL.d AOp.la ?_ | refine AL.d (AOp.ll 0) ?_)) | refine AL.gs ?_ | refine AL.gu ?_) <;> refine AL.es 2 ?_ <;> refine AL.nil ?_) | refine AW.jt ?_ | refine AW.jf ?_ | refine AW.jj (fun hb => ?_) (fun hb => ?_) | refine AW.go ?_ | fail)
        all_goals try (exfalso; simp only [decide_eq_true_eq, decide_eq_false_iff_not] at *; omega)
        exact AW.donev rfl ⟨_, m1, bk1, hE _ _ he, hf1, rfl, rfl⟩
  · have hin : ¬ (i : Int) < X.n := by omega
    repeat' (first | (refine AW.r 17 ?_ <;> refine AL.es 3 ?_ <;> (first | refine AL.d AOp.fa ?_ | refine AL.d (AOp.fr 4) ?_) <;> (first | refine AL.d AOp.la ?_ | refine AL.d (AOp.ll 0) ?_) <;> refine AL.es 2 ?_ <;> (first | refine AL.es 2 ?_ | (refine AL.gx (fun hb => ?_) (fun hb => ?_) <;> refine AL.es 2 ?_)) <;> (first | (refine AL.gd ?_; (first | refine AL.d AOp.fa ?_ | refine AL.d (AOp.fr 13) ?_)) | refine AL.gs ?_ | refine AL.gu ?_) <;> (first | (refine AL.gd ?_; (first | refine AL.d AOp.la ?_ | refine AL.d (AOp.ll 0) ?_)) | refine AL.gs ?_ | refine AL.gu ?_) <;> refine AL.es 2 ?_ <;> refine AL.nil ?_) | refine AW.jt ?_ | refine AW.jf ?_ | refine AW.jj (fun hb => ?_) (fun hb => ?_) | refine AW.go ?_ | fail)
    all_goals try (exfalso; simp only [decide_eq_true_eq, decide_eq_false_iff_not] at *; omega)
    all_goals
      rcases he with ⟨rfl, he⟩ | ⟨e, rfl, h72, he⟩
      · exact AW.donev rfl ⟨none, m1, bk1, hE _ _ (he _ _ (.eend hin)), hf1, rfl, rfl⟩
      · exact AW.donev rfl ⟨some e, m1, bk1, hE _ _ he, hf1, rfl, rfl⟩
theorem ref_times0 (m : MS) (bk : RK) (k : Int) : Tri Tryz.prog 126 [.ref X.mb 0, .int .i64 k, .sl []] (m.rah X bk 0) (D (.tup []) (m.rah X bk 0)) := by
  refine Tri.enter 35 Tryz.func126 rfl rfl rfl rfl fun Fr w0 => ?_
  repeat' (first | refine AW.re 0 3 ?_ | refine AW.jt ?_ | refine AW.jf ?_ | refine AW.jj (fun hb => ?_) (fun hb => ?_) | refine AW.go ?_ | fail)
  · exact AW.retv rfl ⟨rfl, rfl⟩
theorem ref_times (l : List GStmt) (hne : l ≠ []) (hl : l.length ≤ 4611686018427387904) (hb1 : RAll X F R sig B l) : ∀ (k : Nat) (hk : k ≤ 12) (m : MS) (bk : RK) (hm : RFit X F R sig B m bk),
    Tri Tryz.prog 126 [.ref X.mb 0, .int .i64 k, .sl (l.map GStmt.av)] (m.rah X bk 0) (RPost X F R sig B (.t l k) m) := by
  have hpos : 0 < l.length := List.length_pos_iff.2 hne
  intro k
  induction k with
  | zero =>
    intro hk m bk hm
    have hB := hb1 m bk hm
    refine Tri.enter 35 Tryz.func126 rfl rfl rfl rfl fun Fr w0 => ?_
    repeat' (first | refine AW.re 0 3 ?_ | refine AW.jt ?_ | refine AW.jf ?_ | refine AW.jj (fun hb => ?_) (fun hb => ?_) | refine AW.go ?_ | fail)
    all_goals try (exfalso; simp only [beq_iff_eq, List.length_map] at *; omega)
    repeat' (first | refine AW.re 1 2 ?_ | (refine AW.r 2 ?_ <;> refine AL.es 2 ?_ <;> refine AL.callR rfl rfl hB rfl fun o2 m2 bk2 hx2 hf2 => ?_ <;> refine AL.nil ?_) | refine AW.jt ?_ | refine AW.jf ?_ | refine AW.jj (fun hb => ?_) (fun hb => ?_) | refine AW.go ?_ | fail)
    exact AW.retv rfl ⟨o2, m2, bk2, .tz hx2, hf2, rfl, rfl⟩
  | succ k ih =>
    intro hk m bk hm
    have hn := hm.mf.n
    simp only [RG.E] at hn
    refine Tri.enter 35 Tryz.func126 rfl rfl rfl rfl fun Fr w0 => ?_
    repeat' (first | refine AW.re 0 3 ?_ | refine AW.re 1 2 ?_ | refine AW.jt ?_ | refine AW.jf ?_ | refine AW.jj (fun hb => ?_) (fun hb => ?_) | refine AW.go ?_ | fail)
    all_goals try (exfalso; simp only [beq_iff_eq, List.length_map] at *; omega)
    repeat' (first | refine AW.re 3 1 ?_ | refine AW.jt ?_ | refine AW.jf ?_ | refine AW.jj (fun hb => ?_) (fun hb => ?_) | refine AW.go ?_ | fail)
    refine AW.prune [0, 1, 2, 6] (AW.loop (fun mz af h => ∃ (i : Nat) (m1 : MS) (bk1 : RK) (o : Option Int), i ≤ X.n.toNat ∧ mz = X.n.toNat - i ∧ af = [(0, .ref X.mb 0), (1, .int .i64 ((k + 1 : Nat) : Int)), (2, .sl (l.map GStmt.av)), (6, .int .i64 i)] ∧ h = m1.rah X bk1 (o.getD 0) ∧ (RFit X F R sig B m1 bk1 ∧ ((o = none ∧ ∀ o' m', Ex X.E (.r l k (X.n.toNat - i)) m1 o' m' → Ex X.E (.t l (k + 1)) m o' m') ∨ ∃ e, o = some e ∧ (e = 7 ∨ e = 2) ∧ Ex X.E (.t l (k + 1)) m (some e) m1))) X.n.toNat ⟨0, m, bk, none, Nat.zero_le _, rfl, rfl, rfl, ⟨hm, .inl ⟨rfl, fun _ _ h => .ts h⟩⟩⟩ ?_)
    rintro mz af h ⟨i, m1, bk1, o, hi, rfl, rfl, rfl, he⟩
    refine AW.seq ?_
    by_cases hlt : i < X.n.toNat
    all_goals obtain ⟨hf1, he⟩ := he
    · rcases he with ⟨rfl, he⟩ | ⟨e, rfl, h72, he⟩
      · rw [show X.n.toNat - i = (X.n.toNat - (i + 1)) + 1 by omega] at he
        have hB := ih (by omega) m1 bk1 hf1
        have hkk : (((k + 1 : Nat) : Int) - 1) = (k : Nat) := by omega
        rw [← hkk] at hB
        repeat' (first | (refine AW.r 4 ?_ <;> refine AL.es 3 ?_ <;> (first | refine AL.d AOp.fa ?_ | refine AL.d (AOp.fr 4) ?_) <;> (first | refine AL.d AOp.la ?_ | refine AL.d (AOp.ll 0) ?_) <;> refine AL.es 2 ?_ <;> (first | refine AL.es 2 ?_ | (refine AL.gx (fun hb => ?_) (fun hb => ?_) <;> refine AL.es 2 ?_)) <;> (first | (refine AL.gd ?_; (first | refine AL.d AOp.fa ?_ | refine AL.d (AOp.fr 13) ?_)) | refine AL.gs ?_ | refine AL.gu ?_) <;> (first | (refine AL.gd ?_; (first | refine AL.d AOp.la ?_ | refine AL.d (AOp.ll 0) ?_)) | refine AL.gs ?_ | refine AL.gu ?_) <;> refine AL.es 2 ?_ <;> refine AL.nil ?_) | refine AW.jt ?_ | refine AW.jf ?_ | refine AW.jj (fun hb => ?_) (fun hb => ?_) | refine AW.go ?_ | fail)
        all_goals try (exfalso; simp only [decide_eq_true_eq, decide_eq_false_iff_not] at *; omega)
        repeat' (first | (refine AW.r 6 ?_ <;> refine AL.es 2 ?_ <;> refine AL.d AOp.sb ?_ <;> refine AL.es 1 ?_ <;> refine AL.callR rfl rfl hB rfl fun o2 m2 bk2 hx2 hf2 => ?_ <;> refine AL.nil ?_) | (refine AW.r 5 ?_ <;> refine AL.es 1 ?_ <;> refine AL.d AOp.ad ?_ <;> refine AL.es 1 ?_ <;> refine AL.nil ?_) | refine AW.jt ?_ | refine AW.jf ?_ | refine AW.jj (fun hb => ?_) (fun hb => ?_) | refine AW.go ?_ | fail)
        cases o2 with
        | none => exact AW.again_keep (X.n.toNat - (i + 1)) [0, 1, 2, 6] (by omega) ⟨i + 1, m2, bk2, none, hlt, rfl, rfl, rfl, hf2, .inl ⟨rfl, fun o' m' h' => he _ _ (.rstep hx2 h')⟩⟩
        | some e2 => exact AW.again_keep (X.n.toNat - (i + 1)) [0, 1, 2, 6] (by omega) ⟨i + 1, m2, bk2, some e2, hlt, rfl, rfl, rfl, hf2, .inr ⟨e2, rfl, hx2.err e2 rfl, he _ _ (.rbad hx2)⟩⟩
      · rcases h72 with rfl | rfl
        all_goals
          repeat' (first | (refine AW.r 4 ?_ <;> refine AL.es 3 ?_ <;> (first | refine AL.d AOp.fa ?_ | refine AL.d (AOp.fr 4) ?_) <;> (first | refine AL.d AOp.la ?_ | refine AL.d (AOp.ll 0) ?_) <;> refine AL.es 2 ?_ <;> (first | refine AL.es 2 ?_ | (refine AL.gx (fun hb => ?_) (fun hb => ?_) <;> refine AL.es 2 ?_)) <;> (first | (refine AL.gd ?_; (first | refine AL.d AOp.fa ?_ | refine AL.d (AOp.fr 13) ?_)) | refine AL.gs ?_ | refine AL.gu ?_) <;> (first | (refine AL.gd ?_; (first | refine AL.d AOp.la ?_ | refine AL.d (AOp.ll 0) ?_)) | refine AL.gs ?_ | refine AL.gu ?_) <;> refine AL.es 2 ?_ <;> refine AL.nil ?_) | refine AW.jt ?_ | refine AW.jf ?_ | refine AW.jj (fun hb => ?_) (fun hb => ?_) | refine AW.go ?_ | fail)
          all_goals try (exfalso; simp only [decide_eq_true_eq, decide_eq_false_iff_not] at *; omega)
          exact AW.donev rfl ⟨_, m1, bk1, he, hf1, rfl, rfl⟩
    · rw [show X.n.toNat - i = 0 by omega] at he
      repeat' (first | (refine AW.r 4 ?_ <;> refine AL.es 3 ?_ <;> (first | refine AL.d AOp.fa ?_ | refine AL.d (AOp.fr 4) ?_) <;> (first | refine AL.d AOp.la ?_ | refine AL.d (AOp.ll 0) ?_) <;> refine AL.es 2 ?_ <;> (first | refine AL.es 2 ?_ | (refine AL.gx (fun hb => ?_) (fun hb => ?_) <;> refine AL.es 2 ?_)) <;> (first | (refine AL.gd ?_; (first | refine AL.d AOp.fa ?_ | refine AL.d (AOp.fr 13) ?_)) | refine AL.gs ?_ | refine AL.gu ?_) <;> (first | (refine AL.gd ?_; (first | refine AL.d AOp.la ?_ | refine AL.d (AOp.ll 0) ?_)) | refine AL.gs ?_ | refine AL.gu ?_) <;> refine AL.es 2 ?_ <;> refine AL.nil ?_) | refine AW.jt ?_ | refine AW.jf ?_ | refine AW.jj (fun hb => ?_) (fun hb => ?_) | refine AW.go ?_ | fail)
      all_goals try (exfalso; simp only [decide_eq_true_eq, decide_eq_false_iff_not] at *; omega)
      all_goals
        rcases he with ⟨rfl, he⟩ | ⟨e, rfl, h72, he⟩
        · exact AW.donev rfl ⟨none, m1, bk1, he _ _ .rz, hf1, rfl, rfl⟩
        · exact AW.donev rfl ⟨some e, m1, bk1, he, hf1, rfl, rfl⟩
theorem one_times (hm : RFit X F R sig B m bk) (s : GStmt) (hs : Fit F R sig s) (hk : s.Kind = 9) (hl : s.Body.length ≤ 4611686018427387904) (hb1 : RAll X F R sig B s.Body) :
    Tri Tryz.prog 94 [.ref X.mb 0, s.st] (m.rah X bk 0) (RPost X F R sig B (.s s) m) := by
  have hN := hs.n
  by_cases hne : s.Body = []
  · have hE : Ex X.E (.s s) m none m := .t0 hk hne
    have hT := ref_times0 (X := X) m bk s.N
    obtain ⟨kd, sf, sg, sr, sn, snm, sfr, slit, sregs, sbody, sels⟩ := s
    simp only at *
    subst hk
    subst hne
    refine Tri.enter 209 Tryz.func94 rfl rfl rfl rfl fun Fr w0 => ?_
    repeat' (first | (refine AW.r 0 ?_ <;> (first | refine AL.d (AOp.box_ro (v := .st [.int .i64 9, .int .i64 sf, .int .i64 sg, .int .i64 sr, .int .i64 sn, .str snm, .str sfr, slit.av, ints sregs, .sl [], .sl (sels.map GStmt.av)]) rfl rfl) ?_ | refine AL.d (AOp.box_ro rfl rfl) ?_) <;> refine AL.nil ?_) | (refine AW.r 1 ?_ <;> (first | refine AL.d AOp.fa ?_ | refine AL.d (AOp.fr 0) ?_) <;> (first | refine AL.d AOp.la ?_ | refine AL.d (AOp.ll 0) ?_) <;> refine AL.nil ?_) | refine AW.re 3 2 ?_ | refine AW.re 5 2 ?_ | refine AW.re 7 2 ?_ | refine AW.re 9 2 ?_ | refine AW.re 11 2 ?_ | refine AW.re 13 2 ?_ | refine AW.re 15 2 ?_ | refine AW.re 21 2 ?_ | refine AW.re 25 2 ?_ | (refine AW.r 26 ?_ <;> refine AL.es 1 ?_ <;> (first | refine AL.d AOp.fa ?_ | refine AL.d (AOp.fr 4) ?_) <;> (first | refine AL.d AOp.la ?_ | refine AL.d (AOp.ll 0) ?_) <;> (first | refine AL.d AOp.fa ?_ | refine AL.d (AOp.fr 12) ?_) <;> (first | refine AL.d AOp.la ?_ | refine AL.d (AOp.ll 0) ?_) <;> refine AL.d (AOp.call rfl rfl hT) ?_ <;> refine AL.nil ?_) | refine AW.jt ?_ | refine AW.jf ?_ | refine AW.jj (fun hb => ?_) (fun hb => ?_) | refine AW.go ?_ | fail)
    exact AW.donev rfl ⟨none, m, bk, hE, hm, rfl, rfl⟩
  · have hT := ref_times s.Body hne hl hb1 s.N.toNat (by omega) m bk hm
    have hE : ∀ o m', Ex X.E (.t s.Body s.N.toNat) m o m' → Ex X.E (.s s) m o m' := fun o m' h => .t1 hk hne h
    rw [Int.toNat_of_nonneg hN.1] at hT
    obtain ⟨kd, sf, sg, sr, sn, snm, sfr, slit, sregs, sbody, sels⟩ := s
    simp only at *
    subst hk
    refine Tri.enter 209 Tryz.func94 rfl rfl rfl rfl fun Fr w0 => ?_
    repeat' (first | (refine AW.r 0 ?_ <;> (first | refine AL.d (AOp.box_ro (v := .st [.int .i64 9, .int .i64 sf, .int .i64 sg, .int .i64 sr, .int .i64 sn, .str snm, .str sfr, slit.av, ints sregs, .sl (sbody.map GStmt.av), .sl (sels.map GStmt.av)]) rfl rfl) ?_ | refine AL.d (AOp.box_ro rfl rfl) ?_) <;> refine AL.nil ?_) | (refine AW.r 1 ?_ <;> (first | refine AL.d AOp.fa ?_ | refine AL.d (AOp.fr 0) ?_) <;> (first | refine AL.d AOp.la ?_ | refine AL.d (AOp.ll 0) ?_) <;> refine AL.nil ?_) | refine AW.re 3 2 ?_ | refine AW.re 5 2 ?_ | refine AW.re 7 2 ?_ | refine AW.re 9 2 ?_ | refine AW.re 11 2 ?_ | refine AW.re 13 2 ?_ | refine AW.re 15 2 ?_ | refine AW.re 21 2 ?_ | refine AW.re 25 2 ?_ | (refine AW.r 26 ?_ <;> refine AL.es 1 ?_ <;> (first | refine AL.d AOp.fa ?_ | refine AL.d (AOp.fr 4) ?_) <;> (first | refine AL.d AOp.la ?_ | refine AL.d (AOp.ll 0) ?_) <;> (first | refine AL.d AOp.fa ?_ | refine AL.d (AOp.fr 12) ?_) <;> (first | refine AL.d AOp.la ?_ | refine AL.d (AOp.ll 0) ?_) <;> refine AL.callR rfl rfl hT rfl fun o2 m2 bk2 hx2 hf2 => ?_ <;> refine AL.nil ?_) | refine AW.jt ?_ | refine AW.jf ?_ | refine AW.jj (fun hb => ?_) (fun hb => ?_) | refine AW.go ?_ | fail)
    exact AW.donev rfl ⟨o2, m2, bk2, hE _ _ hx2, hf2, rfl, rfl⟩
end Go.Proofs.YtdedkpfbfklgbaaGreat
namespace Go.Proofs.YtdedkpfbfklgbaaGreat
open Go.RowKit Go.SX
set_option maxRecDepth 100000
set_option maxHeartbeats 4000000
set_option linter.unusedVariables false
set_option linter.unusedSimpArgs false
variable {X : RG} {F R : Nat} {sig : ByteArray → Option Nat} {B : Blk} {m : MS} {bk : RK}
theorem box_step_ok (hm : RFit X F R sig B m bk) (h : m.steps < X.fuel) : Tri Tryz.prog 93 [.ref X.mb 0] [.box X.mb (m.rbox X 0)] (D (.bool true) [.box X.mb (m.step.rbox X 0)]) := by
  have hs := hm.mf.steps
  have hf := hm.mf.fuel
  simp only [RG.E] at hs hf
  refine Tri.enter 34 Tryz.func93 rfl rfl rfl rfl fun Fr w0 => ?_
  repeat' (first | refine AW.re 0 1 ?_ | (refine AW.dq 1 ?_ <;> refine AQ.es 2 ?_ <;> (first | refine AQ.p rfl AOp.fa ?_ | refine AQ.p rfl (AOp.fr 13) ?_) <;> (first | refine AQ.p rfl AOp.la ?_ | refine AQ.p rfl (AOp.ll 0) ?_) <;> refine AQ.es 2 ?_ <;> (first | refine AQ.es 2 ?_ | (refine AQ.x (fun hb => ?_) (fun hb => ?_) <;> refine AQ.es 2 ?_)) <;> (first | refine AQ.gp rfl AOp.fa ?_ | refine AQ.gp rfl (AOp.fr 11) ?_ | refine AQ.k ?_) <;> (first | refine AQ.gp rfl AOp.la ?_ | refine AQ.gp rfl (AOp.ll 0) ?_ | refine AQ.k ?_) <;> refine AQ.es 2 ?_ <;> (first | refine AQ.gp rfl AOp.fa ?_ | refine AQ.gp rfl (AOp.fr 12) ?_ | refine AQ.k ?_) <;> (first | refine AQ.gp rfl AOp.la ?_ | refine AQ.gp rfl (AOp.ll 0) ?_ | refine AQ.k ?_) <;> refine AQ.es 2 ?_ <;> refine AQ.nil ?_) | (refine AW.r 3 ?_ <;> refine AL.es 2 ?_ <;> (first | refine AL.d AOp.fa ?_ | refine AL.d (AOp.fr 13) ?_) <;> (first | refine AL.d AOp.la ?_ | refine AL.d (AOp.ll 0) ?_) <;> refine AL.es 1 ?_ <;> refine AL.nil ?_) | (refine AW.r 5 ?_ <;> refine AL.es 2 ?_ <;> (first | refine AL.d AOp.fa ?_ | refine AL.d (AOp.fr 11) ?_) <;> (first | refine AL.d AOp.la ?_ | refine AL.d (AOp.ll 0) ?_) <;> refine AL.d AOp.ad ?_ <;> refine AL.es 1 ?_ <;> (first | refine AL.d AOp.fa ?_ | refine AL.d (AOp.fr 11) ?_) <;> refine AL.sl 0 ?_ <;> refine AL.nil ?_) | refine AW.re 6 1 ?_ | refine AW.jt ?_ | refine AW.jf ?_ | refine AW.jj (fun hb => ?_) (fun hb => ?_) | refine AW.go ?_ | fail)
  all_goals try (exfalso; simp only [decide_eq_true_eq, decide_eq_false_iff_not] at *; omega)
  exact AW.retv rfl ⟨rfl, rfl⟩
theorem box_step_bad (hm : RFit X F R sig B m bk) (h : ¬ m.steps < X.fuel) : Tri Tryz.prog 93 [.ref X.mb 0] [.box X.mb (m.rbox X 0)] (D (.bool false) [.box X.mb (m.rbox X 7)]) := by
  refine Tri.enter 34 Tryz.func93 rfl rfl rfl rfl fun Fr w0 => ?_
  repeat' (first | refine AW.re 0 1 ?_ | (refine AW.dq 1 ?_ <;> refine AQ.es 2 ?_ <;> (first | refine AQ.p rfl AOp.fa ?_ | refine AQ.p rfl (AOp.fr 13) ?_) <;> (first | refine AQ.p rfl AOp.la ?_ | refine AQ.p rfl (AOp.ll 0) ?_) <;> refine AQ.es 2 ?_ <;> (first | refine AQ.es 2 ?_ | (refine AQ.x (fun hb => ?_) (fun hb => ?_) <;> refine AQ.es 2 ?_)) <;> (first | refine AQ.gp rfl AOp.fa ?_ | refine AQ.gp rfl (AOp.fr 11) ?_ | refine AQ.k ?_) <;> (first | refine AQ.gp rfl AOp.la ?_ | refine AQ.gp rfl (AOp.ll 0) ?_ | refine AQ.k ?_) <;> refine AQ.es 2 ?_ <;> (first | refine AQ.gp rfl AOp.fa ?_ | refine AQ.gp rfl (AOp.fr 12) ?_ | refine AQ.k ?_) <;> (first | refine AQ.gp rfl AOp.la ?_ | refine AQ.gp rfl (AOp.ll 0) ?_ | refine AQ.k ?_) <;> refine AQ.es 2 ?_ <;> refine AQ.nil ?_) | (refine AW.r 2 ?_ <;> refine AL.es 2 ?_ <;> (first | refine AL.d AOp.fa ?_ | refine AL.d (AOp.fr 13) ?_) <;> refine AL.sl 0 ?_ <;> refine AL.nil ?_) | (refine AW.r 3 ?_ <;> refine AL.es 2 ?_ <;> (first | refine AL.d AOp.fa ?_ | refine AL.d (AOp.fr 13) ?_) <;> (first | refine AL.d AOp.la ?_ | refine AL.d (AOp.ll 0) ?_) <;> refine AL.es 1 ?_ <;> refine AL.nil ?_) | refine AW.re 4 1 ?_ | refine AW.jt ?_ | refine AW.jf ?_ | refine AW.jj (fun hb => ?_) (fun hb => ?_) | refine AW.go ?_ | fail)
  all_goals try (exfalso; simp only [decide_eq_true_eq, decide_eq_false_iff_not] at *; omega)
  exact AW.retv rfl ⟨rfl, rfl⟩
theorem one_until (hm : RFit X F R sig B m bk) (s : GStmt) (hs : Fit F R sig s) (hk : s.Kind = 10) (hb1 : RAll X F R sig B s.Body) :
    Tri Tryz.prog 94 [.ref X.mb 0, s.st] (m.rah X bk 0) (RPost X F R sig B (.s s) m) := by
  have hf := hs.f (by rw [hk]; rfl)
  have hB := hb1 m bk hm
  have eB : ∀ {m e m'}, Ex X.E (.l s.Body) m (some e) m' → Ex X.E (.s s) m (some e) m' := fun h => .ubad hk h
  have eE : ∀ {m m1}, Ex X.E (.l s.Body) m none m1 → flagAt m1.flags s.F = true → Ex X.E (.s s) m none m1 := fun h h2 => .uend hk h h2
  have eS : ∀ {m m1}, Ex X.E (.l s.Body) m none m1 → flagAt m1.flags s.F = false → ¬ m1.steps < X.E.fuel → Ex X.E (.s s) m (some 7) m1 := fun h h2 h3 => .ustop hk h h2 h3
  have eN : ∀ {m m1 o m2}, Ex X.E (.l s.Body) m none m1 → flagAt m1.flags s.F = false → m1.steps < X.E.fuel → Ex X.E (.s s) m1.step o m2 → Ex X.E (.s s) m o m2 := fun h h2 h3 h4 => .ustep hk h h2 h3 h4
  obtain ⟨kd, sf, sg, sr, sn, snm, sfr, slit, sregs, sbody, sels⟩ := s
  simp only at hk hf hB
  subst hk
  generalize hT : Task.s ⟨10, sf, sg, sr, sn, snm, sfr, slit, sregs, sbody, sels⟩ = T at *
  simp only at eB eE eS eN hb1
  refine Tri.enter 209 Tryz.func94 rfl rfl rfl rfl fun Fr w0 => ?_
  repeat' (first | (refine AW.r 0 ?_ <;> (first | refine AL.d (AOp.box_ro (v := .st [.int .i64 10, .int .i64 sf, .int .i64 sg, .int .i64 sr, .int .i64 sn, .str snm, .str sfr, slit.av, ints sregs, .sl (sbody.map GStmt.av), .sl (sels.map GStmt.av)]) rfl rfl) ?_ | refine AL.d (AOp.box_ro rfl rfl) ?_) <;> refine AL.nil ?_) | (refine AW.r 1 ?_ <;> (first | refine AL.d AOp.fa ?_ | refine AL.d (AOp.fr 0) ?_) <;> (first | refine AL.d AOp.la ?_ | refine AL.d (AOp.ll 0) ?_) <;> refine AL.nil ?_) | refine AW.re 3 2 ?_ | refine AW.re 5 2 ?_ | refine AW.re 7 2 ?_ | refine AW.re 9 2 ?_ | refine AW.re 11 2 ?_ | refine AW.re 13 2 ?_ | refine AW.re 15 2 ?_ | refine AW.re 21 2 ?_ | refine AW.re 25 2 ?_ | refine AW.re 27 2 ?_ | (refine AW.r 28 ?_ <;> refine AL.es 1 ?_ <;> (first | refine AL.d AOp.fa ?_ | refine AL.d (AOp.fr 12) ?_) <;> (first | refine AL.d AOp.la ?_ | refine AL.d (AOp.ll 0) ?_) <;> refine AL.callR rfl rfl hB rfl fun o0 m0' bk0 hx0 hf0 => ?_ <;> refine AL.nil ?_) | refine AW.jt ?_ | refine AW.jf ?_ | refine AW.jj (fun hb => ?_) (fun hb => ?_) | refine AW.go ?_ | fail)
  refine AW.prune [0, 3] (AW.loop (fun mz af h => ∃ (m1 : MS) (bk1 : RK) (o : Option Int), mz = (X.fuel - m1.steps).toNat ∧ af = [(0, .ref X.mb 0), (3, .at (.st [.int .i64 10, .int .i64 sf, .int .i64 sg, .int .i64 sr, .int .i64 sn, .str snm, .str sfr, slit.av, ints sregs, .sl (sbody.map GStmt.av), .sl (sels.map GStmt.av)]))] ∧ h = m1.rah X bk1 (o.getD 0) ∧ RFit X F R sig B m1 bk1 ∧ ((o = none ∧ ∃ mp, Ex X.E (.l sbody) mp none m1 ∧ ∀ o' m', Ex X.E T mp o' m' → Ex X.E T m o' m') ∨ ∃ e, o = some e ∧ (e = 7 ∨ e = 2) ∧ Ex X.E T m (some e) m1)) (X.fuel - m0'.steps).toNat ⟨m0', bk0, o0, rfl, rfl, rfl, hf0, ?_⟩ ?_)
  · cases o0 with
    | none => exact .inl ⟨rfl, m, hx0, fun _ _ h => h⟩
    | some e => exact .inr ⟨e, rfl, hx0.err e rfl, eB hx0⟩
  rintro mz af h ⟨m1, bk1, o, rfl, rfl, rfl, hf1, he⟩
  refine AW.seq ?_
  rcases he with ⟨rfl, mp, hmp, he⟩ | ⟨e, rfl, h72, he⟩
  · have hfl := hf1.mf.flen
    have g0 := flag_get (fl := m1.flags) (x := sf) (by omega)
    cases e0 : flagAt m1.flags sf <;> rw [e0] at g0
    · by_cases hfu : m1.steps < X.fuel
      · have hst := box_step_ok hf1 hfu
        have hB2 := hb1 m1.step bk1 (hf1.step hfu)
        repeat' (first | (refine AW.ex 29 [true] [18, 19] ?_ <;> refine AQE.e ?_ <;> refine AQE.e ?_ <;> (first | refine AQE.p rfl AOp.fa ?_ | refine AQE.p rfl (AOp.fr 13) ?_) <;> (first | refine AQE.p rfl (AOp.load_cell 0 rfl rfl g0 rfl (by kernel_rfl)) ?_ | refine AQE.pe rfl (AOp.load_cell 0 rfl rfl g0 rfl (by kernel_rfl)) ?_ | refine AQE.p rfl (AOp.load_cell 1 rfl rfl g0 rfl (by kernel_rfl)) ?_ | refine AQE.pe rfl (AOp.load_cell 1 rfl rfl g0 rfl (by kernel_rfl)) ?_ | refine AQE.p rfl AOp.la ?_ | refine AQE.p rfl (AOp.ll 0) ?_ | refine AQE.pe rfl (AOp.ll 0) ?_) <;> refine AQE.e ?_ <;> refine AQE.e ?_ <;> (first | refine AQE.ge ?_ | refine AQE.k ?_) <;> (first | refine AQE.ge ?_ | refine AQE.k ?_) <;> (first | refine AQE.gp rfl AOp.fa ?_ | refine AQE.gp rfl (AOp.fr 5) ?_ | refine AQE.k ?_) <;> (first | refine AQE.gp rfl (AOp.load_cell 0 rfl rfl g0 rfl (by kernel_rfl)) ?_ | refine AQE.gpe rfl (AOp.load_cell 0 rfl rfl g0 rfl (by kernel_rfl)) ?_ | refine AQE.gp rfl (AOp.load_cell 1 rfl rfl g0 rfl (by kernel_rfl)) ?_ | refine AQE.gpe rfl (AOp.load_cell 1 rfl rfl g0 rfl (by kernel_rfl)) ?_ | refine AQE.gp rfl AOp.la ?_ | refine AQE.gp rfl (AOp.ll 0) ?_ | refine AQE.gpe rfl (AOp.ll 0) ?_ | refine AQE.k ?_) <;> (first | refine AQE.gp rfl AOp.fa ?_ | refine AQE.gp rfl (AOp.fr 1) ?_ | refine AQE.k ?_) <;> (first | refine AQE.gp rfl (AOp.load_cell 0 rfl rfl g0 rfl (by kernel_rfl)) ?_ | refine AQE.gpe rfl (AOp.load_cell 0 rfl rfl g0 rfl (by kernel_rfl)) ?_ | refine AQE.gp rfl (AOp.load_cell 1 rfl rfl g0 rfl (by kernel_rfl)) ?_ | refine AQE.gpe rfl (AOp.load_cell 1 rfl rfl g0 rfl (by kernel_rfl)) ?_ | refine AQE.gp rfl AOp.la ?_ | refine AQE.gp rfl (AOp.ll 0) ?_ | refine AQE.gpe rfl (AOp.ll 0) ?_ | refine AQE.k ?_) <;> (first | refine AQE.gp rfl (AOp.index_osl rfl rfl (by omega) (by omega) (by kernel_rfl)) ?_ | refine AQE.k ?_) <;> (first | refine AQE.gp rfl (AOp.load_cell 0 rfl rfl g0 rfl (by kernel_rfl)) ?_ | refine AQE.gpe rfl (AOp.load_cell 0 rfl rfl g0 rfl (by kernel_rfl)) ?_ | refine AQE.gp rfl (AOp.load_cell 1 rfl rfl g0 rfl (by kernel_rfl)) ?_ | refine AQE.gpe rfl (AOp.load_cell 1 rfl rfl g0 rfl (by kernel_rfl)) ?_ | refine AQE.gp rfl AOp.la ?_ | refine AQE.gp rfl (AOp.ll 0) ?_ | refine AQE.gpe rfl (AOp.ll 0) ?_ | refine AQE.k ?_) <;> (first | refine AQE.ge ?_ | refine AQE.k ?_) <;> refine AQE.e ?_ <;> refine AQE.e ?_ <;> (first | refine AQE.ge ?_ | refine AQE.k ?_) <;> refine AQE.hl ?_ <;> refine AQE.hl ?_ <;> refine AQE.nil ?_) | refine AW.jt ?_ | refine AW.jf ?_ | refine AW.jj (fun hb => ?_) (fun hb => ?_) | refine AW.go ?_ | fail)
        refine AX.og (n := 1) 18 ?_
        refine AXO.d (AOp.call rfl rfl hst) ?_
        refine AX.o (n := 0) 19 ?_
        refine AXO.e ?_
        refine AX.done_keep [0, 3, 204] ?_
        repeat' (first | (refine AW.r 30 ?_ <;> refine AL.es 1 ?_ <;> (first | refine AL.d AOp.fa ?_ | refine AL.d (AOp.fr 12) ?_) <;> (first | refine AL.d AOp.la ?_ | refine AL.d (AOp.ll 0) ?_) <;> refine AL.callR rfl rfl hB2 rfl fun o2 m2 bk2 hx2 hf2 => ?_ <;> refine AL.nil ?_) | refine AW.jt ?_ | refine AW.jf ?_ | refine AW.jj (fun hb => ?_) (fun hb => ?_) | refine AW.go ?_ | fail)
        have hgr := hx2.grow.1
        have hms : m1.step.steps = m1.steps + 1 := rfl
        rw [hms] at hgr
        cases o2 with
        | none => exact AW.again_keep (X.fuel - m2.steps).toNat [0, 3] (by omega) ⟨m2, bk2, none, rfl, rfl, rfl, hf2, .inl ⟨rfl, m1.step, hx2, fun o' m' h' => he _ _ (eN hmp e0 hfu h')⟩⟩
        | some e2 => exact AW.again_keep (X.fuel - m2.steps).toNat [0, 3] (by omega) ⟨m2, bk2, some e2, rfl, rfl, rfl, hf2, .inr ⟨e2, rfl, hx2.err e2 rfl, he _ _ (eN hmp e0 hfu (eB hx2))⟩⟩
      · have hst := box_step_bad hf1 hfu
        repeat' (first | (refine AW.ex 29 [true] [18, 19] ?_ <;> refine AQE.e ?_ <;> refine AQE.e ?_ <;> (first | refine AQE.p rfl AOp.fa ?_ | refine AQE.p rfl (AOp.fr 13) ?_) <;> (first | refine AQE.p rfl (AOp.load_cell 0 rfl rfl g0 rfl (by kernel_rfl)) ?_ | refine AQE.pe rfl (AOp.load_cell 0 rfl rfl g0 rfl (by kernel_rfl)) ?_ | refine AQE.p rfl (AOp.load_cell 1 rfl rfl g0 rfl (by kernel_rfl)) ?_ | refine AQE.pe rfl (AOp.load_cell 1 rfl rfl g0 rfl (by kernel_rfl)) ?_ | refine AQE.p rfl AOp.la ?_ | refine AQE.p rfl (AOp.ll 0) ?_ | refine AQE.pe rfl (AOp.ll 0) ?_) <;> refine AQE.e ?_ <;> refine AQE.e ?_ <;> (first | refine AQE.ge ?_ | refine AQE.k ?_) <;> (first | refine AQE.ge ?_ | refine AQE.k ?_) <;> (first | refine AQE.gp rfl AOp.fa ?_ | refine AQE.gp rfl (AOp.fr 5) ?_ | refine AQE.k ?_) <;> (first | refine AQE.gp rfl (AOp.load_cell 0 rfl rfl g0 rfl (by kernel_rfl)) ?_ | refine AQE.gpe rfl (AOp.load_cell 0 rfl rfl g0 rfl (by kernel_rfl)) ?_ | refine AQE.gp rfl (AOp.load_cell 1 rfl rfl g0 rfl (by kernel_rfl)) ?_ | refine AQE.gpe rfl (AOp.load_cell 1 rfl rfl g0 rfl (by kernel_rfl)) ?_ | refine AQE.gp rfl AOp.la ?_ | refine AQE.gp rfl (AOp.ll 0) ?_ | refine AQE.gpe rfl (AOp.ll 0) ?_ | refine AQE.k ?_) <;> (first | refine AQE.gp rfl AOp.fa ?_ | refine AQE.gp rfl (AOp.fr 1) ?_ | refine AQE.k ?_) <;> (first | refine AQE.gp rfl (AOp.load_cell 0 rfl rfl g0 rfl (by kernel_rfl)) ?_ | refine AQE.gpe rfl (AOp.load_cell 0 rfl rfl g0 rfl (by kernel_rfl)) ?_ | refine AQE.gp rfl (AOp.load_cell 1 rfl rfl g0 rfl (by kernel_rfl)) ?_ | refine AQE.gpe rfl (AOp.load_cell 1 rfl rfl g0 rfl (by kernel_rfl)) ?_ | refine AQE.gp rfl AOp.la ?_ | refine AQE.gp rfl (AOp.ll 0) ?_ | refine AQE.gpe rfl (AOp.ll 0) ?_ | refine AQE.k ?_) <;> (first | refine AQE.gp rfl (AOp.index_osl rfl rfl (by omega) (by omega) (by kernel_rfl)) ?_ | refine AQE.k ?_) <;> (first | refine AQE.gp rfl (AOp.load_cell 0 rfl rfl g0 rfl (by kernel_rfl)) ?_ | refine AQE.gpe rfl (AOp.load_cell 0 rfl rfl g0 rfl (by kernel_rfl)) ?_ | refine AQE.gp rfl (AOp.load_cell 1 rfl rfl g0 rfl (by kernel_rfl)) ?_ | refine AQE.gpe rfl (AOp.load_cell 1 rfl rfl g0 rfl (by kernel_rfl)) ?_ | refine AQE.gp rfl AOp.la ?_ | refine AQE.gp rfl (AOp.ll 0) ?_ | refine AQE.gpe rfl (AOp.ll 0) ?_ | refine AQE.k ?_) <;> (first | refine AQE.ge ?_ | refine AQE.k ?_) <;> refine AQE.e ?_ <;> refine AQE.e ?_ <;> (first | refine AQE.ge ?_ | refine AQE.k ?_) <;> refine AQE.hl ?_ <;> refine AQE.hl ?_ <;> refine AQE.nil ?_) | refine AW.jt ?_ | refine AW.jf ?_ | refine AW.jj (fun hb => ?_) (fun hb => ?_) | refine AW.go ?_ | fail)
        refine AX.og (n := 1) 18 ?_
        refine AXO.d (AOp.call rfl rfl hst) ?_
        refine AX.o (n := 0) 19 ?_
        refine AXO.e ?_
        refine AX.done_keep [0, 3, 204] ?_
        repeat' (first | refine AW.jt ?_ | refine AW.jf ?_ | refine AW.jj (fun hb => ?_) (fun hb => ?_) | refine AW.go ?_ | fail)
        exact AW.donev rfl ⟨some 7, m1, bk1, he _ _ (eS hmp e0 hfu), hf1, rfl, rfl⟩
    · repeat' (first | (refine AW.dq 29 ?_ <;> refine AQ.es 2 ?_ <;> (first | refine AQ.p rfl AOp.fa ?_ | refine AQ.p rfl (AOp.fr 13) ?_) <;> (first | refine AQ.p rfl (AOp.load_cell 1 rfl rfl g0 rfl (by kernel_rfl)) ?_ | refine AQ.p rfl AOp.la ?_ | refine AQ.p rfl (AOp.ll 0) ?_) <;> refine AQ.es 2 ?_ <;> (first | refine AQ.es 2 ?_ | (refine AQ.x (fun hb => ?_) (fun hb => ?_) <;> refine AQ.es 2 ?_)) <;> (first | refine AQ.gp rfl AOp.fa ?_ | refine AQ.gp rfl (AOp.fr 5) ?_ | refine AQ.k ?_) <;> (first | refine AQ.gp rfl (AOp.load_cell 1 rfl rfl g0 rfl (by kernel_rfl)) ?_ | refine AQ.gp rfl AOp.la ?_ | refine AQ.gp rfl (AOp.ll 0) ?_ | refine AQ.k ?_) <;> (first | refine AQ.gp rfl AOp.fa ?_ | refine AQ.gp rfl (AOp.fr 1) ?_ | refine AQ.k ?_) <;> (first | refine AQ.gp rfl (AOp.load_cell 1 rfl rfl g0 rfl (by kernel_rfl)) ?_ | refine AQ.gp rfl AOp.la ?_ | refine AQ.gp rfl (AOp.ll 0) ?_ | refine AQ.k ?_) <;> (first | refine AQ.gp rfl (AOp.index_osl rfl rfl (by omega) (by omega) (by kernel_rfl)) ?_ | refine AQ.k ?_) <;> (first | refine AQ.gp rfl (AOp.load_cell 1 rfl rfl g0 rfl (by kernel_rfl)) ?_ | refine AQ.gp rfl AOp.la ?_ | refine AQ.gp rfl (AOp.ll 0) ?_ | refine AQ.k ?_) <;> refine AQ.es 3 ?_ <;> (first | refine AQ.es 1 ?_ | (refine AQ.x (fun hb => ?_) (fun hb => ?_) <;> refine AQ.es 1 ?_)) <;> (first | fail | refine AQ.k ?_) <;> refine AQ.es 1 ?_ <;> refine AQ.nil ?_) | refine AW.jt ?_ | refine AW.jf ?_ | refine AW.jj (fun hb => ?_) (fun hb => ?_) | refine AW.go ?_ | fail)
      exact AW.donev rfl ⟨none, m1, bk1, he _ _ (eE hmp e0), hf1, rfl, rfl⟩
  · rcases h72 with rfl | rfl
    all_goals
      repeat' (first | (refine AW.dq 29 ?_ <;> refine AQ.es 2 ?_ <;> (first | refine AQ.p rfl AOp.fa ?_ | refine AQ.p rfl (AOp.fr 13) ?_) <;> (first | refine AQ.p rfl AOp.la ?_ | refine AQ.p rfl (AOp.ll 0) ?_) <;> refine AQ.es 2 ?_ <;> (first | refine AQ.es 2 ?_ | (refine AQ.x (fun hb => ?_) (fun hb => ?_) <;> refine AQ.es 2 ?_)) <;> (first | refine AQ.gp rfl AOp.fa ?_ | refine AQ.gp rfl (AOp.fr 5) ?_ | refine AQ.k ?_) <;> (first | refine AQ.gp rfl AOp.la ?_ | refine AQ.gp rfl (AOp.ll 0) ?_ | refine AQ.k ?_) <;> (first | refine AQ.gp rfl AOp.fa ?_ | refine AQ.gp rfl (AOp.fr 1) ?_ | refine AQ.k ?_) <;> (first | refine AQ.gp rfl AOp.la ?_ | refine AQ.gp rfl (AOp.ll 0) ?_ | refine AQ.k ?_) <;> (first | fail | refine AQ.k ?_) <;> (first | refine AQ.gp rfl AOp.la ?_ | refine AQ.gp rfl (AOp.ll 0) ?_ | refine AQ.k ?_) <;> refine AQ.es 3 ?_ <;> (first | refine AQ.es 1 ?_ | (refine AQ.x (fun hb => ?_) (fun hb => ?_) <;> refine AQ.es 1 ?_)) <;> (first | fail | refine AQ.k ?_) <;> refine AQ.es 1 ?_ <;> refine AQ.nil ?_) | refine AW.jt ?_ | refine AW.jf ?_ | refine AW.jj (fun hb => ?_) (fun hb => ?_) | refine AW.go ?_ | fail)
      exact AW.donev rfl ⟨_, m1, bk1, he, hf1, rfl, rfl⟩
theorem ref_names {A : Ar} {fl rg : Int} {s : GStmt} (h : refS A fl rg s = true) : ((s.Kind = 6 ∨ s.Kind = 11 ∨ s.Kind = 12 ∨ s.Kind = 13 ∨ s.Kind = 14) → ∃ n, A s.Name = some n) ∧ ((s.Kind = 13 ∨ s.Kind = 14) → ∃ n, A s.From = some n) := by
  unfold refS at h
  rw [Bool.and_eq_true] at h
  have h := h.2
  unfold fldB at h
  simp only [Bool.and_eq_true] at h
  obtain ⟨⟨⟨_, h1⟩, _⟩, h3⟩ := h
  constructor
  · intro hk
    have hu : (useOf s.Kind).name = true := by rcases hk with h | h | h | h | h <;> rw [h] <;> rfl
    rw [hu] at h1
    simp at h1
    exact Option.isSome_iff_exists.1 h1
  · intro hk
    have hu : (useOf s.Kind).frm = true := by rcases hk with h | h <;> rw [h] <;> rfl
    rw [hu] at h3
    simp at h3
    exact Option.isSome_iff_exists.1 h3.1
theorem ref_one (hX : RSt X F R sig) {fl rg : Int} (s : GStmt) (hok : s.Ok) (hs : SFit F R sig s) (hr : refS (arOf X.c.Arrays) fl rg s = true) (hb : RAll X F R sig B s.Body) (he : RAll X F R sig B s.Else) : ROne X F R sig B s := by
  intro m bk hm
  have hf := hs.fit
  obtain ⟨hn1, hn2⟩ := ref_names hr
  have hkd := hf.kind
  obtain ⟨h0, hb1, hb2, he1, he2⟩ := id hok
  obtain ⟨_, _, _, _, _, _, _, hLit, hRegs⟩ := h0
  have hLl : s.Lit.At.length ≤ 4611686018427387904 := by have := hLit.2.2.1; omega
  have hRl : s.Regs.length ≤ 4611686018427387904 := by have := hRegs.1; omega
  have hAΦ : ∀ m', ∀ x h, APost X F R sig B m' x h → x = .ret (.tup []) := fun m' x h ⟨_, _, _, e⟩ => e
  have hRΦ : ∀ T, ∀ x h, RPost X F R sig B T m x h → x = .ret (.tup []) := fun T x h ⟨_, _, _, _, _, _, e⟩ => e
  have hcases : s.Kind = 0 ∨ s.Kind = 1 ∨ s.Kind = 2 ∨ s.Kind = 3 ∨ s.Kind = 4 ∨ s.Kind = 5 ∨ s.Kind = 6 ∨ s.Kind = 7 ∨ s.Kind = 8 ∨ s.Kind = 9 ∨ s.Kind = 10 ∨ s.Kind = 11 ∨ s.Kind = 12 ∨ s.Kind = 13 ∨ s.Kind = 14 := by omega
  rcases hcases with h | h | h | h | h | h | h | h | h | h | h | h | h | h | h
  · exact RPost.of_a (.inl ⟨by omega, by omega⟩) (one_0 hX hm s hf h hLl)
  · exact RPost.of_a (.inl ⟨by omega, by omega⟩) (one_1 hm s hf h)
  · exact RPost.of_a (.inl ⟨by omega, by omega⟩) (one_2 hm s hf h)
  · exact RPost.of_a (.inl ⟨by omega, by omega⟩) (one_3 hm s hf h)
  · exact RPost.of_a (.inl ⟨by omega, by omega⟩) (one_4 hm s hf h)
  · exact RPost.of_a (.inl ⟨by omega, by omega⟩) (one_5 hm s hf h)
  · obtain ⟨n, hn⟩ := hn1 (by omega)
    exact RPost.of_a (.inl ⟨by omega, by omega⟩) (one_arr s (by omega) (hAΦ _) (arr_6 hX hm s hf h hRl hn))
  · exact one_each hm s hf h hb
  · exact one_if hm s hf h hb he
  · exact one_times hm s hf h (by omega) hb
  · exact one_until hm s hf h hb
  · obtain ⟨n, hn⟩ := hn1 (by omega)
    exact RPost.of_a (.inr (.inl h)) (one_arr s (by omega) (hAΦ _) (arr_11 hX hm s hf h hn))
  · obtain ⟨n, hn⟩ := hn1 (by omega)
    exact one_arr s (by omega) (hRΦ _) (arr_12 hX hm s hf h hn)
  · obtain ⟨n, hn⟩ := hn1 (by omega)
    obtain ⟨n2, hn2'⟩ := hn2 (by omega)
    exact RPost.of_a (.inr (.inr (.inl h))) (one_arr s (by omega) (hAΦ _) (arr_13 hX hm s hf h hn hn2'))
  · obtain ⟨n, hn⟩ := hn1 (by omega)
    obtain ⟨n2, hn2'⟩ := hn2 (by omega)
    exact RPost.of_a (.inr (.inr (.inr h))) (one_arr s (by omega) (hAΦ _) (arr_14 hX hm s hf h hn hn2'))
theorem ref_list (hX : RSt X F R sig) {fl rg : Int} : ∀ (n : Nat) (l : List GStmt), cntL l ≤ n → l.length ≤ 4611686018427387904 → (∀ x ∈ l, x.Ok) → (∀ x ∈ l, SFit F R sig x) → allL (refS (arOf X.c.Arrays) fl rg) l = true → RAll X F R sig B l := by
  intro n
  induction n using Nat.strongRecOn with
  | _ n ih =>
    intro l hn hl hok hs hr
    refine ref_run l hl fun x hx => ?_
    have hc := cnt_mem hx
    have hcs := cntS_eq x
    obtain ⟨r1, r2, r3⟩ := allL_mem _ hr x hx
    have hbo := okB (hok x hx)
    exact ref_one hX x (hok x hx) (hs x hx) r1 (ih (cntL x.Body) (by omega) x.Body (Nat.le_refl _) hbo.1 hbo.2.1 (hs x hx).body r2) (ih (cntL x.Else) (by omega) x.Else (Nat.le_refl _) hbo.2.2.1 hbo.2.2.2 (hs x hx).els r3)
end Go.Proofs.YtdedkpfbfklgbaaGreat
namespace Go.Proofs.YtdedkpfbfklgbaaGreat
open Go.RowKit Go.SX
set_option maxRecDepth 100000
set_option maxHeartbeats 4000000
set_option linter.unusedVariables false
set_option linter.unusedSimpArgs false
theorem ref_rank3 (n : Int) (hn : 1 ≤ n ∧ n ≤ 64) (t : List Int) (hl : t.length ≤ 12) (ht : ∀ x ∈ t, 0 ≤ x ∧ x < n) (hp : n ^ t.length ≤ 4096) : Tri Tryz.prog 92 [.int .i64 n, ints t] [] (D (.int .i64 (rankGo n t 0)) []) := by
  refine Tri.enter 22 Tryz.func92 rfl rfl rfl rfl fun Fr w0 => ?_
  repeat' (first | refine AW.re 0 1 ?_ | refine AW.re 1 1 ?_ | refine AW.re 2 1 ?_ | refine AW.jt ?_ | refine AW.jf ?_ | refine AW.jj (fun hb => ?_) (fun hb => ?_) | refine AW.go ?_ | fail)
  refine AW.prune [0, 1, 5, 6] (AW.loop (fun mz af h => ∃ (i : Nat) (r : Int), i ≤ t.length ∧ mz = t.length - i ∧ af = [(0, .int .i64 n), (1, ints t), (5, .int .i64 r), (6, .int .i64 i)] ∧ h = [] ∧ (0 ≤ r ∧ r < n ^ i ∧ rankGo n t 0 = rankGo n (t.drop i) r)) t.length ⟨0, 0, Nat.zero_le _, rfl, rfl, rfl, ⟨by omega, by simp, rfl⟩⟩ ?_)
  rintro mz af h ⟨i, r, hi, rfl, rfl, rfl, he⟩
  refine AW.seq ?_
  by_cases hlt : i < t.length
  all_goals obtain ⟨r0, r1, he⟩ := he
  · obtain ⟨x, hx⟩ := get_lt hlt
    have hx' : (t.map iav)[((i : Nat) : Int).toNat]? = some (iav x) := map_get hx
    have hxr := ht x (List.mem_of_getElem? hx)
    rw [drop_cons hx, rankGo] at he
    have h3 : r * n + n ≤ n ^ (i + 1) := by
      rw [Int.pow_succ]
      have := Int.mul_le_mul_of_nonneg_right (show r + 1 ≤ n ^ i by omega) (show 0 ≤ n by omega)
      rw [Int.add_mul] at this; omega
    have hle := pow_le_of hn.1 (show i + 1 ≤ t.length by omega)
    have hnn : 0 ≤ r * n := Int.mul_nonneg r0 (by omega)
    repeat' (first | refine AW.re 3 4 ?_ | (refine AW.r 5 ?_ <;> refine AL.es 2 ?_ <;> refine AL.d (AOp.mul rfl rfl (by omega)) ?_ <;> refine AL.es 2 ?_ <;> refine AL.d (AOp.index_sl rfl rfl (by omega) hx' (by kernel_rfl) rfl) ?_ <;> refine AL.es 1 ?_ <;> (first | refine AL.d (AOp.mul rfl rfl (by omega)) ?_ | refine AL.d AOp.ad ?_) <;> refine AL.es 1 ?_ <;> refine AL.nil ?_) | (refine AW.r 4 ?_ <;> refine AL.es 1 ?_ <;> (first | refine AL.d (AOp.mul rfl rfl (by omega)) ?_ | refine AL.d AOp.ad ?_) <;> refine AL.es 1 ?_ <;> refine AL.nil ?_) | refine AW.jt ?_ | refine AW.jf ?_ | refine AW.jj (fun hb => ?_) (fun hb => ?_) | refine AW.go ?_ | fail)
    all_goals try (exfalso; simp only [decide_eq_true_eq, decide_eq_false_iff_not, List.length_map] at *; omega)
    exact AW.again_keep (t.length - (i + 1)) [0, 1, 5, 6] (by omega) ⟨i + 1, _, hlt, rfl, rfl, rfl, by omega, by omega, he⟩
  · rw [List.drop_eq_nil_of_le (by omega), rankGo] at he
    repeat' (first | refine AW.re 3 4 ?_ | refine AW.re 6 2 ?_ | refine AW.jt ?_ | refine AW.jf ?_ | refine AW.jj (fun hb => ?_) (fun hb => ?_) | refine AW.go ?_ | fail)
    all_goals try (exfalso; simp only [decide_eq_true_eq, decide_eq_false_iff_not, List.length_map] at *; omega)
    exact AW.retv rfl ⟨by rw [he], rfl⟩
def tupOk (n ar : Int) (t : List Int) : Prop := (t.length : Int) = ar ∧ elemsB n t = true
theorem rank_eq {n ar : Int} (hp : (powerR n ar).2 = 0) {t : List Int} (ht : tupOk n ar t) : (rankR n t).1 = rankGo n t 0 := by
  unfold rankR
  rw [ht.1, if_pos hp, ht.2]; rfl
theorem size_val {n ar : Int} (hp : (powerR n ar).2 = 0) : ppow n ar.toNat 1 = (powerR n ar).1 ∧ 0 ≤ (powerR n ar).1 ∧ (powerR n ar).1 ≤ 4096 := by
  obtain ⟨h1, h2, h3, h4, h5⟩ := powerR_ok hp
  have hv := power_val hp
  have hq := ppow_powGo h1 ar.toNat 1 (by omega) (by omega)
  unfold powerR at hv ⊢
  rw [if_neg (by omega), if_neg (by omega)] at hv ⊢
  rcases hq with ⟨a, b, c⟩ | ⟨a, b⟩
  · exact ⟨b, h5, by rw [← b]; exact c⟩
  · omega
theorem ref_TableOf (n : Int) (nm : ByteArray) (ar : Int) (l : List (List Int)) (hp : (powerR n ar).2 = 0) (hl : l.length ≤ 4611686018427387904) (ht : ∀ t ∈ l, tupOk n ar t) :
    Tri Tryz.prog 37 [.int .i64 n, .str nm, .int .i64 ar, .sl (l.map ints)] [] (D (.st [.str nm, .int .i64 ar, bools (tabGo n l (List.replicate (powerR n ar).1.toNat false))]) []) := by
  obtain ⟨h1, h2, h3, h4, h5⟩ := powerR_ok hp
  have hv := power_val hp
  obtain ⟨q1, q2, q3⟩ := size_val hp
  have hP := ref_Pow n ar ⟨h1, h2⟩ ⟨h3, h4⟩
  rw [q1] at hP
  generalize hk : (powerR n ar).1.toNat = k at *
  have hkk : (powerR n ar).1 = (k : Nat) := by omega
  rw [hkk] at hP q3
  rw [hkk] at hv
  refine Tri.enter 34 Tryz.func37 rfl rfl rfl rfl fun Fr w0 => ?_
  repeat' (first | (refine AW.r 0 ?_ <;> refine AL.alloc_z (.st [.str empS, .int .i64 0, .sl []]) (by kernel_rfl) rfl rfl fun b8 => ?_ <;> refine AL.nil ?_) | refine AW.jt ?_ | refine AW.jf ?_ | refine AW.jj (fun hb => ?_) (fun hb => ?_) | refine AW.go ?_ | fail)
  repeat' (first | (refine AW.r 1 ?_ <;> refine AL.es 4 ?_ <;> refine AL.d (AOp.call rfl rfl (hP.pure _)) ?_ <;> refine AL.makeSlice (n := k) (e := 4) (c := .bool false) (z := .bool false) (bytes := 1) rfl rfl (by kernel_rfl) rfl (by omega) (by omega) rfl fun b => ?_ <;> refine AL.d (AOp.build (pl := [(0, 1), (1, 1), (2, 1)]) (z := .st [.str ⟨#[]⟩, .int .i64 0, .sl []]) (by kernel_rfl) rfl rfl rfl) ?_ <;> refine AL.alloc_store (by kernel_rfl) rfl rfl rfl rfl ?_ <;> refine AL.nil ?_) | refine AW.re 2 1 ?_ | refine AW.jt ?_ | refine AW.jf ?_ | refine AW.jj (fun hb => ?_) (fun hb => ?_) | refine AW.go ?_ | fail)
  refine AW.frame_eq rfl (ah' := [.row b ((List.replicate k false).map bav), .box b8 (.st [.str empS, .int .i64 0, .sl []])]) (by rw [List.map_replicate]; rfl) ?_
  refine AW.prune [0, 3, 8, 9, 10] (AW.loop (fun mz af h => ∃ (i : Nat) (xs : List Bool), i ≤ l.length ∧ mz = l.length - i ∧ af = [(0, .int .i64 n), (3, .sl (l.map ints)), (8, .ref b8 0), (9, .at (.st [.str nm, .int .i64 ar, .osl b k k])), (10, .int .i64 i)] ∧ h = [.row b (xs.map bav), .box b8 (.st [.str empS, .int .i64 0, .sl []])] ∧ (xs.length = k ∧ tabGo n l (List.replicate k false) = tabGo n (l.drop i) xs)) l.length ⟨0, List.replicate k false, Nat.zero_le _, rfl, rfl, rfl, ⟨by simp, rfl⟩⟩ ?_)
  rintro mz af h ⟨i, xs, hi, rfl, rfl, rfl, he⟩
  refine AW.seq ?_
  by_cases hlt : i < l.length
  all_goals obtain ⟨hxl, he⟩ := he
  · obtain ⟨t, hx⟩ := get_lt hlt
    have hx' : (l.map ints)[((i : Nat) : Int).toNat]? = some (ints t) := map_get hx
    have htk := ht t (List.mem_of_getElem? hx)
    have hel := elems_mem htk.2
    have htl : t.length = ar.toNat := by have := htk.1; omega
    have hR := ref_rank3 n ⟨h1, h2⟩ t (by omega) hel (by rw [htl]; omega)
    have hb := rankGo_bd h1 t 0 0 hel (by omega) (by simp)
    rw [Nat.zero_add, htl] at hb
    rw [drop_cons hx, tabGo, rank_eq hp htk] at he
    repeat' (first | refine AW.re 3 4 ?_ | refine AW.jt ?_ | refine AW.jf ?_ | refine AW.jj (fun hb => ?_) (fun hb => ?_) | refine AW.go ?_ | fail)
    all_goals try (exfalso; simp only [decide_eq_true_eq, decide_eq_false_iff_not, List.length_map] at *; omega)
    repeat' (first | (refine AW.dl 5 9 ?_ <;> refine AQ.es 5 ?_ <;> (first | refine AQ.p rfl (AOp.index_sl rfl rfl (by omega) hx' (by kernel_rfl) rfl) ?_ | refine AQ.p rfl (AOp.index_osl rfl rfl (by omega) (by omega) (by kernel_rfl)) ?_) <;> refine AQ.es 1 ?_ <;> refine AQ.p rfl (AOp.call rfl rfl (hR.pure _)) ?_ <;> (first | refine AQ.p rfl (AOp.index_sl rfl rfl (by omega) hx' (by kernel_rfl) rfl) ?_ | refine AQ.p rfl (AOp.index_osl rfl rfl (by omega) (by omega) (by kernel_rfl)) ?_) <;> refine AQ.nil ?_ <;> refine AL.store_cell 0 rfl rfl rfl (by simp; omega) rfl rfl (by kernel_rfl) ?_ <;> refine AL.nil ?_) | (refine AW.r 4 ?_ <;> refine AL.es 1 ?_ <;> refine AL.d AOp.ad ?_ <;> refine AL.es 1 ?_ <;> refine AL.nil ?_) | refine AW.jt ?_ | refine AW.jf ?_ | refine AW.jj (fun hb => ?_) (fun hb => ?_) | refine AW.go ?_ | fail)
    refine AW.again_keep (l.length - (i + 1)) [0, 3, 8, 9, 10] (by omega) ⟨i + 1, _, hlt, rfl, rfl, ?_, ?_, he⟩
    · rw [List.map_set]; rfl
    · simp [hxl]
  · rw [List.drop_eq_nil_of_le (by omega), tabGo] at he
    repeat' (first | refine AW.re 3 4 ?_ | refine AW.jt ?_ | refine AW.jf ?_ | refine AW.jj (fun hb => ?_) (fun hb => ?_) | refine AW.go ?_ | fail)
    all_goals try (exfalso; simp only [decide_eq_true_eq, decide_eq_false_iff_not, List.length_map] at *; omega)
    refine AW.freeze_at 0 9 (b := b) (n := k) (c := k) (v' := .at (.st [.str nm, .int .i64 ar, .sl (xs.map bav)])) rfl rfl (by simp [hxl]) (all_map fun _ => rfl) (fun u h => h) (fun S w h cs hc => relc_at (fun cs => relc_set 2 _ rfl h) hc) ?_
    repeat' (first | (refine AW.r 6 ?_ <;> (first | refine AL.d AOp.la ?_ | refine AL.d (AOp.lw 0) ?_) <;> refine AL.sl 0 ?_ <;> refine AL.nil ?_) | refine AW.jt ?_ | refine AW.jf ?_ | refine AW.jj (fun hb => ?_) (fun hb => ?_) | refine AW.go ?_ | fail)
    refine AW.retc (vs := [.st [.str nm, .int .i64 ar, .sl (xs.map bav)]]) (.cell 0 rfl rfl (by kernel_rfl) .nil) (List.nil_sublist _) ⟨by rw [he]; rfl, rfl⟩
theorem ref_TableNew (n : Int) (nm : ByteArray) (ar : Int) (hp : (powerR n ar).2 = 0) :
    Tri Tryz.prog 37 [.int .i64 n, .str nm, .int .i64 ar, .sl []] [] (fun x h => ∃ b, x = .ret (.st [.str nm, .int .i64 ar, .osl b (powerR n ar).1.toNat (powerR n ar).1.toNat]) ∧ h = [.row b (List.replicate (powerR n ar).1.toNat (.bool false))]) := by
  obtain ⟨h1, h2, h3, h4, h5⟩ := powerR_ok hp
  obtain ⟨q1, q2, q3⟩ := size_val hp
  have hP := ref_Pow n ar ⟨h1, h2⟩ ⟨h3, h4⟩
  rw [q1] at hP
  generalize hk : (powerR n ar).1.toNat = k at *
  have hkk : (powerR n ar).1 = (k : Nat) := by omega
  rw [hkk] at hP q3
  refine Tri.enter 34 Tryz.func37 rfl rfl rfl rfl fun Fr w0 => ?_
  repeat' (first | (refine AW.r 0 ?_ <;> refine AL.alloc_z (.st [.str empS, .int .i64 0, .sl []]) (by kernel_rfl) rfl rfl fun b8 => ?_ <;> refine AL.nil ?_) | refine AW.jt ?_ | refine AW.jf ?_ | refine AW.jj (fun hb => ?_) (fun hb => ?_) | refine AW.go ?_ | fail)
  repeat' (first | (refine AW.r 1 ?_ <;> refine AL.es 4 ?_ <;> refine AL.d (AOp.call rfl rfl (hP.pure _)) ?_ <;> refine AL.makeSlice (n := k) (e := 4) (c := .bool false) (z := .bool false) (bytes := 1) rfl rfl (by kernel_rfl) rfl (by omega) (by omega) rfl fun b => ?_ <;> refine AL.d (AOp.build (pl := [(0, 1), (1, 1), (2, 1)]) (z := .st [.str ⟨#[]⟩, .int .i64 0, .sl []]) (by kernel_rfl) rfl rfl rfl) ?_ <;> refine AL.alloc_store (by kernel_rfl) rfl rfl rfl rfl ?_ <;> refine AL.nil ?_) | refine AW.re 2 1 ?_ | refine AW.jt ?_ | refine AW.jf ?_ | refine AW.jj (fun hb => ?_) (fun hb => ?_) | refine AW.go ?_ | fail)
  refine AW.prune [0, 3, 8, 9, 10] (AW.loop (fun mz af h => ∃ (i : Nat), i ≤ 0 ∧ mz = 0 - i ∧ af = [(0, .int .i64 n), (3, .sl []), (8, .ref b8 0), (9, .at (.st [.str nm, .int .i64 ar, .osl b k k])), (10, .int .i64 i)] ∧ h = [.row b (List.replicate k (.bool false)), .box b8 (.st [.str empS, .int .i64 0, .sl []])] ∧ True) 0 ⟨0, Nat.zero_le _, rfl, rfl, rfl, trivial⟩ ?_)
  rintro mz af h ⟨i, hi, rfl, rfl, rfl, he⟩
  refine AW.seq ?_
  by_cases hlt : i < 0
  · omega
  · repeat' (first | refine AW.re 3 4 ?_ | refine AW.jt ?_ | refine AW.jf ?_ | refine AW.jj (fun hb => ?_) (fun hb => ?_) | refine AW.go ?_ | fail)
    all_goals try (exfalso; simp only [decide_eq_true_eq, decide_eq_false_iff_not, List.length_nil] at *; omega)
    repeat' (first | (refine AW.r 6 ?_ <;> (first | refine AL.d AOp.la ?_ | refine AL.d (AOp.lw 0) ?_ | refine AL.d (AOp.lw 1) ?_) <;> (first | refine AL.sl 0 ?_ | refine AL.sl 1 ?_) <;> refine AL.nil ?_) | refine AW.jt ?_ | refine AW.jf ?_ | refine AW.jj (fun hb => ?_) (fun hb => ?_) | refine AW.go ?_ | fail)
    exact AW.retc (vs := [.st [.str nm, .int .i64 ar, .osl b k k]]) (.cell 1 rfl rfl (by kernel_rfl) .nil) (ah' := [.row b (List.replicate k (.bool false))]) (by simp) ⟨b, rfl, rfl⟩
def tabL (s : GStr) : List (ByteArray × Int × List Bool) := s.Rels.map fun r => (r.Name, r.Arity, tabGo s.Size r.Tuples (List.replicate (powerR s.Size r.Arity).1.toNat false))
theorem rel_tuples {n : Int} {r : GRel} (h : relB n r = true) : ∀ t ∈ r.Tuples, tupOk n r.Arity t := by
  unfold relB tuplesB at h
  simp only [Bool.and_eq_true] at h
  exact tup_mem _ _ h.2
theorem ref_Of (s : GStr) (hs : s.Ok) (hv : validStr s = true) : Tri Tryz.prog 91 [s.av] [] (D (.at (.st [.int .i64 s.Size, .int .i64 s.Rels.length, .sl ((tabL s).map relT), .sl [], .sl [], .bool false])) []) := by
  have hvr := valid_rel hv
  have hrl : s.Rels.length ≤ 8 := by unfold validStr at hv; simp only [Bool.and_eq_true, decide_eq_true_eq] at hv; exact hv.1.2
  have hlen : ((s.Rels.map GRel.av).length : Int) = s.Rels.length := by simp
  refine Tri.enter 50 Tryz.func91 rfl rfl rfl rfl fun Fr w0 => ?_
  repeat' (first | (refine AW.r 0 ?_ <;> (first | refine AL.d (AOp.box_ro rfl rfl) ?_ | refine AL.d (AOp.box_ro rfl rfl) ?_) <;> refine AL.es 1 ?_ <;> refine AL.nil ?_) | refine AW.jt ?_ | refine AW.jf ?_ | refine AW.jj (fun hb => ?_) (fun hb => ?_) | refine AW.go ?_ | fail)
  repeat' (first | (refine AW.r 1 ?_ <;> refine AL.es 5 ?_ <;> (first | refine AL.d (AOp.build (pl := [(0, 1), (1, 1), (2, 1), (3, 1), (4, 1), (5, 1)]) (z := .st [.int .i64 0, .int .i64 0, nilS, .sl [], .sl [], .bool false]) (by kernel_rfl) rfl rfl rfl) ?_ | refine AL.d (AOp.build (pl := [(0, 1), (1, 1), (2, 1), (3, 1), (4, 1), (5, 1)]) (z := .st [.int .i64 0, .int .i64 0, .sl [], .sl [], .sl [], .bool false]) (by kernel_rfl) rfl rfl rfl) ?_) <;> refine AL.box rfl rfl rfl fun bw => ?_ <;> refine AL.es 1 ?_ <;> refine AL.nil ?_) | refine AW.jt ?_ | refine AW.jf ?_ | refine AW.jj (fun hb => ?_) (fun hb => ?_) | refine AW.go ?_ | fail)
  refine AW.recast 0 (c' := .st [.int .i64 s.Size, .int .i64 (s.Rels.map GRel.av).length, .slt [] none 0, .sl [], .sl [], .bool false]) rfl (fun S w cs h => relc_set 2 _ rfl (fun cs h => nil_slt _ _ _ h) h) ?_
  refine AW.own_nil 3 ?_
  repeat' (first | refine AW.re 2 1 ?_ | refine AW.jt ?_ | refine AW.jf ?_ | refine AW.jj (fun hb => ?_) (fun hb => ?_) | refine AW.go ?_ | fail)
  rw [hlen]
  refine AW.prune [1, 3, 4] (AW.loop (fun mz af h => ∃ (i : Nat) (tb : Option Nat) (tc : Nat), i ≤ s.Rels.length ∧ mz = s.Rels.length - i ∧ af = [(1, .at s.av), (3, .ref bw 0), (4, .int .i64 i)] ∧ h = [.tail tb (((tabL s).take i).map relT).length tc 3, .box bw (.st [.int .i64 s.Size, .int .i64 s.Rels.length, .slt (((tabL s).take i).map relT) tb tc, .sl [], .sl [], .bool false])] ∧ True) s.Rels.length ⟨0, none, 0, Nat.zero_le _, rfl, rfl, rfl, trivial⟩ ?_)
  rintro mz af h ⟨i, tb, tc, hi, rfl, rfl, rfl, he⟩
  refine AW.seq ?_
  by_cases hlt : i < s.Rels.length
  · obtain ⟨r, hx⟩ := get_lt hlt
    have hx' : (s.Rels.map GRel.av)[((i : Nat) : Int).toNat]? = some (.st [.str r.Name, .int .i64 r.Arity, .sl (r.Tuples.map ints)]) := map_get hx
    have hrm := List.mem_of_getElem? hx
    have hrb := hvr.2.2 r hrm
    have hrp := rel_power hvr.1 hvr.2.1 hrb
    have hro := hs.2.2 r hrm
    have hT := ref_TableOf s.Size r.Name r.Arity r.Tuples hrp.1 (by have := hro.2.2.1; omega) (rel_tuples hrb)
    have htl : ((tabL s).take i).length ≤ 8 := by rw [List.length_take]; omega
    have hfx : (tabL s)[i]? = some (r.Name, r.Arity, tabGo s.Size r.Tuples (List.replicate (powerR s.Size r.Arity).1.toNat false)) := by unfold tabL; rw [List.getElem?_map, hx]; rfl
    repeat' (first | refine AW.re 3 5 ?_ | refine AW.jt ?_ | refine AW.jf ?_ | refine AW.jj (fun hb => ?_) (fun hb => ?_) | refine AW.go ?_ | fail)
    all_goals try (exfalso; simp only [decide_eq_true_eq, decide_eq_false_iff_not, List.length_map] at *; omega)
    repeat' (first | (refine AW.ex 5 [true, true] [27, 30] ?_ <;> refine AQE.e ?_ <;> refine AQE.e ?_ <;> refine AQE.e ?_ <;> (first | refine AQE.p rfl AOp.fa ?_ | refine AQE.p rfl (AOp.fr 2) ?_) <;> (first | refine AQE.p rfl AOp.la ?_ | refine AQE.p rfl (AOp.ll 0) ?_ | refine AQE.pe rfl (AOp.ll 0) ?_ | refine AQE.p rfl (AOp.ll 1) ?_ | refine AQE.pe rfl (AOp.ll 1) ?_) <;> (first | refine AQE.p rfl AOp.fa ?_ | refine AQE.p rfl (AOp.fr 0) ?_) <;> (first | refine AQE.p rfl AOp.la ?_ | refine AQE.p rfl (AOp.ll 0) ?_ | refine AQE.pe rfl (AOp.ll 0) ?_ | refine AQE.p rfl (AOp.ll 1) ?_ | refine AQE.pe rfl (AOp.ll 1) ?_) <;> (first | refine AQE.p rfl AOp.fa ?_ | refine AQE.p rfl (AOp.fr 1) ?_) <;> (first | refine AQE.p rfl AOp.la ?_ | refine AQE.p rfl (AOp.ll 0) ?_ | refine AQE.pe rfl (AOp.ll 0) ?_ | refine AQE.p rfl (AOp.ll 1) ?_ | refine AQE.pe rfl (AOp.ll 1) ?_) <;> refine AQE.e ?_ <;> refine AQE.p rfl (AOp.index_sl rfl rfl (by omega) hx' (by kernel_rfl) rfl) ?_ <;> (first | refine AQE.p rfl AOp.fa ?_ | refine AQE.p rfl (AOp.fr 0) ?_) <;> (first | refine AQE.p rfl AOp.la ?_ | refine AQE.p rfl (AOp.ll 0) ?_ | refine AQE.pe rfl (AOp.ll 0) ?_ | refine AQE.p rfl (AOp.ll 1) ?_ | refine AQE.pe rfl (AOp.ll 1) ?_) <;> (first | refine AQE.p rfl AOp.fa ?_ | refine AQE.p rfl (AOp.fr 1) ?_) <;> (first | refine AQE.p rfl AOp.la ?_ | refine AQE.p rfl (AOp.ll 0) ?_ | refine AQE.pe rfl (AOp.ll 0) ?_ | refine AQE.p rfl (AOp.ll 1) ?_ | refine AQE.pe rfl (AOp.ll 1) ?_) <;> refine AQE.e ?_ <;> refine AQE.p rfl (AOp.index_sl rfl rfl (by omega) hx' (by kernel_rfl) rfl) ?_ <;> (first | refine AQE.p rfl AOp.fa ?_ | refine AQE.p rfl (AOp.fr 1) ?_) <;> (first | refine AQE.p rfl AOp.la ?_ | refine AQE.p rfl (AOp.ll 0) ?_ | refine AQE.pe rfl (AOp.ll 0) ?_ | refine AQE.p rfl (AOp.ll 1) ?_ | refine AQE.pe rfl (AOp.ll 1) ?_) <;> (first | refine AQE.p rfl AOp.fa ?_ | refine AQE.p rfl (AOp.fr 1) ?_) <;> (first | refine AQE.p rfl AOp.la ?_ | refine AQE.p rfl (AOp.ll 0) ?_ | refine AQE.pe rfl (AOp.ll 0) ?_ | refine AQE.p rfl (AOp.ll 1) ?_ | refine AQE.pe rfl (AOp.ll 1) ?_) <;> refine AQE.e ?_ <;> refine AQE.p rfl (AOp.index_sl rfl rfl (by omega) hx' (by kernel_rfl) rfl) ?_ <;> (first | refine AQE.p rfl AOp.fa ?_ | refine AQE.p rfl (AOp.fr 2) ?_) <;> (first | refine AQE.p rfl AOp.la ?_ | refine AQE.p rfl (AOp.ll 0) ?_ | refine AQE.pe rfl (AOp.ll 0) ?_ | refine AQE.p rfl (AOp.ll 1) ?_ | refine AQE.pe rfl (AOp.ll 1) ?_) <;> refine AQE.p rfl (AOp.call rfl rfl (hT.pure _)) ?_ <;> refine AQE.p rfl (AOp.lit (e := 87) (sz := 3) (by kernel_rfl) rfl rfl rfl (P_one rfl) (by decide)) ?_ <;> refine AQE.hl ?_ <;> refine AQE.e ?_ <;> (first | refine AQE.p rfl AOp.fa ?_ | refine AQE.p rfl (AOp.fr 2) ?_) <;> refine AQE.hl ?_ <;> refine AQE.nil ?_ <;> refine AX.o (n := 1) 27 ?_ <;> refine AXO.append (i := 0) (e := 87) (sz := 3) (bytes := 48) rfl rfl rfl rfl (by kernel_rfl) (by kernel_rfl) (by repeat' (first | exact P_nil | refine P_app ?_ ?_ | refine P_take ?_ | refine P_drop ?_ | exact P_map fun _ => rfl | exact P_one rfl | exact P_rep rfl)) (by repeat' (first | exact P_nil | refine P_app ?_ ?_ | refine P_take ?_ | refine P_drop ?_ | exact P_map fun _ => rfl | exact P_one rfl | exact P_rep rfl)) (ok_all (by repeat' (first | exact P_nil | refine P_app ?_ ?_ | refine P_take ?_ | refine P_drop ?_ | exact P_map fun _ => rfl | exact P_one rfl | exact P_rep rfl))) (by (try simp only [List.length_append, List.length_map, List.length_take, List.length_drop, List.length_cons, List.length_nil, List.length_replicate]); omega) (by (try simp only [List.length_append, List.length_map, List.length_take, List.length_drop, List.length_cons, List.length_nil, List.length_replicate]); omega) rfl fun b' c' => ?_ <;> try dsimp only [List.set_cons_succ, List.set_cons_zero, List.getD_cons_succ, List.getD_cons_zero] <;> refine AX.o (n := 0) 30 ?_ <;> (first | refine AXO.sl 0 fun _ => ?_ | refine AXO.sl 1 fun _ => ?_) <;> try dsimp only [List.set_cons_succ, List.set_cons_zero, List.getD_cons_succ, List.getD_cons_zero] <;> refine AX.done_keep [0, 1, 2, 3, 4, 5, 6, 7, 8, 9, 10, 11, 12, 13, 14, 15, 16, 17, 18, 49] ?_) | (refine AW.r 4 ?_ <;> refine AL.es 1 ?_ <;> refine AL.d AOp.ad ?_ <;> refine AL.es 1 ?_ <;> refine AL.nil ?_) | refine AW.jt ?_ | refine AW.jf ?_ | refine AW.jj (fun hb => ?_) (fun hb => ?_) | refine AW.go ?_ | fail)
    have htk : (tabL s).take (i + 1) = (tabL s).take i ++ [(r.Name, r.Arity, tabGo s.Size r.Tuples (List.replicate (powerR s.Size r.Arity).1.toNat false))] := by rw [List.take_add_one, hfx]; rfl
    have hmm : ((tabL s).take (i + 1)).map relT = ((tabL s).take i).map relT ++ [relT (r.Name, r.Arity, tabGo s.Size r.Tuples (List.replicate (powerR s.Size r.Arity).1.toNat false))] := by rw [htk]; simp
    refine AW.again_keep (s.Rels.length - (i + 1)) [1, 3, 4] (by omega) ⟨i + 1, b', c', hlt, rfl, rfl, ?_, trivial⟩
    rw [hmm]; rfl
  · have hti : (tabL s).take i = tabL s := List.take_of_length_le (by unfold tabL; rw [List.length_map]; omega)
    rw [hti]
    repeat' (first | refine AW.re 3 5 ?_ | refine AW.jt ?_ | refine AW.jf ?_ | refine AW.jj (fun hb => ?_) (fun hb => ?_) | refine AW.go ?_ | fail)
    all_goals try (exfalso; simp only [decide_eq_true_eq, decide_eq_false_iff_not, List.length_map] at *; omega)
    refine AW.recast 1 (c' := .st [.int .i64 s.Size, .int .i64 s.Rels.length, .sl ((tabL s).map relT), .sl [], .sl [], .bool false]) rfl (fun S w cs h => relc_set 2 _ rfl (fun cs h => slt_sl _ _ _ h) h) ?_
    refine AW.freeze 1 3 rfl rfl ?_
    repeat' (first | refine AW.re 6 2 ?_ | refine AW.jt ?_ | refine AW.jf ?_ | refine AW.jj (fun hb => ?_) (fun hb => ?_) | refine AW.go ?_ | fail)
    exact AW.ret_drop rfl (List.nil_sublist _) ⟨rfl, rfl⟩
theorem ref_Tables (s : GStr) (hs : s.Ok) (hv : validStr s = true) : Tri Tryz.prog 36 [s.av] [] (D (.sl ((tabL s).map relT)) []) := by
  have hO := ref_Of s hs hv
  refine Tri.enter 8 Tryz.func36 rfl rfl rfl rfl fun Fr w0 => ?_
  repeat' (first | (refine AW.r 0 ?_ <;> (first | refine AL.d (AOp.box_ro rfl rfl) ?_ | refine AL.d (AOp.box_ro rfl rfl) ?_) <;> refine AL.es 1 ?_ <;> refine AL.nil ?_) | (refine AW.r 1 ?_ <;> refine AL.es 1 ?_ <;> refine AL.d (AOp.call rfl rfl hO) ?_ <;> refine AL.es 4 ?_ <;> refine AL.nil ?_) | refine AW.jt ?_ | refine AW.jf ?_ | refine AW.jj (fun hb => ?_) (fun hb => ?_) | refine AW.go ?_ | fail)
  exact AW.retv rfl ⟨rfl, rfl⟩
end Go.Proofs.YtdedkpfbfklgbaaGreat
namespace Go.Proofs.YtdedkpfbfklgbaaGreat
open Go.RowKit Go.SX
set_option maxRecDepth 100000
set_option maxHeartbeats 4000000
set_option linter.unusedVariables false
set_option linter.unusedSimpArgs false
theorem perm_end {y z p q r : Own} {M : AH} : (y :: z :: p :: q :: r :: M).Perm (p :: q :: r :: (M ++ [y, z])) := List.perm_append_comm (l₁ := [y, z]) (l₂ := p :: q :: r :: M)
theorem perm_front {x p q r : Own} {M : AH} : (p :: q :: r :: (M ++ [x])).Perm (x :: p :: q :: r :: M) := List.perm_append_singleton x (p :: q :: r :: M)
theorem nd_take {l : List GSym} (hn : (l.map (·.Name)).Nodup) {i : Nat} {x : GSym} (hx : l[i]? = some x) : ∀ a ∈ l.take i, a.Name ≠ x.Name := by
  intro a ha
  obtain ⟨k, hk⟩ := List.getElem?_of_mem ha
  rw [List.getElem?_take] at hk
  split at hk
  · exact nd_ne hn hx k a hk (by omega)
  · cases hk
def ghostB (c : GCode) : Blk := { mb := 0, fb := 0, rb := 0, lb := 0, ub := 0, names := (checkedP c).S.map (·.1) ++ c.Arrays.map (·.Name), bk := fun _ => 0, gl := ⟨[], 0⟩, gu := ⟨[], 0⟩ }
theorem ghost_nd {c : GCode} (hk : ChkOk c) : (ghostB c).names.Nodup := by
  show ((checkedP c).S.map (·.1) ++ c.Arrays.map (·.Name)).Nodup
  rw [List.nodup_append]
  refine ⟨hk.keys, hk.arrs, fun a ha b hb e => ?_⟩
  obtain ⟨x, hx, rfl⟩ := List.mem_map.1 hb
  exact hk.apart x hx (e ▸ ha)
def mkX (c : GCode) (s : GStr) (G : List Bool) (fuel : Int) (mb fb rb : Nat) (A : Option Nat) (cap : Nat) : RG := ⟨c, s.Size, G, fuel, mb, fb, rb, A, cap, tabL s, initR s (checkedP c)⟩
theorem mkX_st {c : GCode} {s : GStr} {G : List Bool} {fuel : Int} (hok : RunOk c s fuel) (hk : ChkOk c) (hal : c.Arrays.length ≤ 60) {mb fb rb : Nat} {A : Option Nat} {cap : Nat} (hA : c.Arrays ≠ [] → ∃ b, A = some b) :
    RSt (mkX c s G fuel mb fb rb A cap) c.Flags.toNat c.Regs.toNat (sigOf c) := by
  have hvr := valid_rel hok.valid
  refine ⟨hk.arrs, hal, hA, fun k n h => ?_, fun k a h1 h2 => ?_, ?_⟩
  · obtain ⟨x, hx, rfl, rfl⟩ := arOf_some h
    show sigOf c x.Name = _
    unfold sigOf
    rw [hk.look x hx]
  · have h1' : arOf c.Arrays k = none := h1
    have hA0 : lookA (checkedP c).A k = none := by
      cases hl : lookA (checkedP c).A k with
      | none => rfl
      | some n =>
        obtain ⟨x, hx, rfl, _⟩ := hk.only k n hl
        unfold arOf at h1'
        rw [Option.map_eq_none_iff, List.find?_eq_none] at h1'
        exact absurd (by simp) (h1' x hx)
    have h2' : sigOf c k = some a := h2
    unfold sigOf at h2'
    rw [hA0] at h2'
    cases hS : lookA (checkedP c).S k with
    | none => simp only [hS] at h2'; cases h2'
    | some n =>
      have hf : 0 ≤ findI s k n := hok.found (k, n) (sym_mem hS)
      obtain ⟨r, hr, hrn, hra, hlt⟩ := find_rel hf
      have hi : initR s (checkedP c) k = tabGo s.Size r.Tuples (List.replicate (powerR s.Size r.Arity).1.toNat false) := by
        unfold initR
        rw [hA0, hS]
        show tableR s k n = _
        unfold tableR
        rw [hr]
      refine ⟨(findI s k n).toNat, r.Arity, ?_, fun i q hi2 hq => ?_⟩
      · show (tabL s)[_]? = some (k, r.Arity, initR s (checkedP c) k)
        unfold tabL
        rw [List.getElem?_map, hr, hi, Option.map_some, hrn]
      · have hq' : (tabL s)[i]? = some q := hq
        unfold tabL at hq'
        rw [List.getElem?_map] at hq'
        cases hx : s.Rels[i]? with
        | none => rw [hx] at hq'; cases hq'
        | some y =>
          rw [hx] at hq'
          obtain rfl := Option.some.inj hq'
          have hg : relsGo s.Size s.Rels 0 s.Rels = true := by have := hok.valid; unfold validStr at this; simp only [Bool.and_eq_true] at this; exact this.2
          have := rels_first s.Rels 0 hg (findI s k n).toNat r hr y (List.mem_iff_getElem?.2 ⟨i, by rw [List.getElem?_take, if_pos (by omega)]; exact hx⟩)
          rw [hrn] at this
          exact this
  · show (tabL s).length ≤ 100
    unfold tabL
    have h := hok.valid
    unfold validStr at h
    simp only [Bool.and_eq_true, decide_eq_true_eq] at h
    rw [List.length_map]; omega
theorem m0_rel {c : GCode} {s : GStr} (hk : ChkOk c) {x : GSym} (hx : x ∈ c.Arrays) : (m0 c s).rels x.Name = List.replicate (powerR s.Size x.Arity).1.toNat false := by
  show initR s (checkedP c) x.Name = _
  unfold initR
  rw [hk.look x hx]
def resV (o : Option Int) (m : MS) : AV := match o with | none => .tup [.bool (flagAt m.flags 0), .int .i64 m.steps, .int .i64 m.used, .int .i64 0] | some e => .tup [.bool false, .int .i64 0, .int .i64 0, .int .i64 e]
def bxA (c : GCode) (s : GStr) (G : List Bool) (fuel : Int) (fb rb : Nat) (fld : AV) : AV := .st [c.av, .int .i64 s.Size, .osl fb (m0 c s).flags.length (m0 c s).flags.length, .osl rb (m0 c s).regs.length (m0 c s).regs.length, fld, .sl ((tabL s).map relT), bools G, .int .i64 0, .int .i64 0, .int .i64 fuel, .int .i64 0]
theorem ref_Run (c : GCode) (s : GStr) (G : List Bool) (fuel : Int) (hc : c.Ok) (hs : s.Ok) (hG : G.length ≤ 4611686018427387904) (hok : RunOk c s fuel) :
    Tri Tryz.prog 10 [c.av, s.av, bools G, .int .i64 fuel] [] (fun x _ => ∃ o m, Ex ⟨s.Size, G, fuel⟩ (.l c.Body) (m0 c s) o m ∧ x = .ret (resV o m)) := by
  have hk := chk_ok hok.bad
  have hfl := hk.flags
  have hrg := hk.regs
  have hall := ref_all hok.bad
  have hbl : c.Body.length ≤ 4611686018427387904 := by have := hc.2.2.2.1; omega
  have hal : c.Arrays.length ≤ 60 := by
    have hb := hok.bad
    rw [checked_iff] at hb
    have h : refValid c = true := by simpa using hb
    unfold refValid at h
    simp only [Bool.and_eq_true, decide_eq_true_eq] at h
    exact h.1.1.1.2
  have hTb := ref_Tables s hs hok.valid
  have hFl : c.Flags = ((m0 c s).flags.length : Int) := by simp [m0]; omega
  have hRl : c.Regs = ((m0 c s).regs.length : Int) := by simp [m0]; omega
  have hfr : List.replicate (m0 c s).flags.length (AV.bool false) = (m0 c s).flags.map bav := by simp [m0, bav]
  have hrr : List.replicate (m0 c s).regs.length (AV.int .i64 0) = (m0 c s).regs.map iav := by simp [m0, iav]
  refine Tri.enter 87 Tryz.func10 rfl rfl rfl rfl fun Fr w0 => ?_
  repeat' (first | (refine AW.r 0 ?_ <;> (first | refine AL.d (AOp.box_ro rfl rfl) ?_ | refine AL.d (AOp.box_ro rfl rfl) ?_) <;> (first | refine AL.d (AOp.box_ro rfl rfl) ?_ | refine AL.d (AOp.box_ro rfl rfl) ?_) <;> refine AL.es 4 ?_ <;> refine AL.nil ?_) | refine AW.jt ?_ | refine AW.jf ?_ | refine AW.jj (fun hb => ?_) (fun hb => ?_) | refine AW.go ?_ | fail)
  refine AW.cut (fun af ah => ∃ mb fb rb : Nat, af = [(4, .at c.av), (5, .at s.av), (12, .ref mb 0)] ∧ ah = [.box mb (bxA c s G fuel fb rb nilS), .row fb ((m0 c s).flags.map bav), .row rb ((m0 c s).regs.map iav)]) ?_ ?_
  · repeat' (first | (refine AW.ex 1 [] [5, 8, 13, 14, 15] ?_ <;> refine AQE.p rfl AOp.la ?_ <;> (first | refine AQE.p rfl AOp.fa ?_ | refine AQE.p rfl (AOp.fr 0) ?_) <;> refine AQE.p rfl AOp.la ?_ <;> (first | refine AQE.p rfl AOp.fa ?_ | refine AQE.p rfl (AOp.fr 0) ?_) <;> refine AQE.p rfl AOp.la ?_ <;> refine AQE.hl ?_ <;> (first | refine AQE.p rfl AOp.fa ?_ | refine AQE.p rfl (AOp.fr 1) ?_) <;> refine AQE.p rfl AOp.la ?_ <;> refine AQE.hl ?_ <;> refine AQE.p rfl AOp.la ?_ <;> refine AQE.p rfl (AOp.call rfl rfl (hTb.pure _)) ?_ <;> refine AQE.e ?_ <;> refine AQE.e ?_ <;> refine AQE.hl ?_ <;> refine AQE.hl ?_ <;> refine AQE.hl ?_ <;> refine AQE.nil ?_) | refine AW.jt ?_ | refine AW.jf ?_ | refine AW.jj (fun hb => ?_) (fun hb => ?_) | refine AW.go ?_ | fail)
    refine AX.two (n := 4) 5 8 rfl ?_ ?_
    · refine AXS.at rfl rfl (AXO.makeSliceE (k := (m0 c s).flags.length) (e := 4) (c := .bool false) (z := .bool false) (bytes := 1) rfl rfl hFl (by kernel_rfl) rfl (by omega) (by omega) fun fb => ?_) rfl
      refine AX.o (n := 3) 8 ?_
      refine AXO.makeSliceE (k := (m0 c s).regs.length) (e := 3) (c := .int .i64 0) (z := .int .i64 0) (bytes := 8) rfl rfl hRl (by kernel_rfl) rfl (by omega) (by omega) fun rb => ?_
      refine AX.o (n := 2) 13 ?_
      refine AXO.d (AOp.build (pl := [(0, 4), (4, 1), (5, 1), (6, 1), (7, 1), (8, 1), (9, 1), (10, 1), (11, 1), (12, 1), (13, 1)]) (z := .st [.st [.int .i64 0, .int .i64 0, .sl [], .sl []], .int .i64 0, .sl [], .sl [], nilS, .sl [], .sl [], .int .i64 0, .int .i64 0, .int .i64 0, .int .i64 0]) (by kernel_rfl) rfl rfl rfl) ?_
      refine AX.o (n := 1) 14 ?_
      refine AXO.box rfl rfl fun mb => ?_
      refine AX.o (n := 0) 15 ?_
      refine AXO.e ?_
      refine AX.done_keep [4, 5, 12] ?_
      refine AW.perm ((List.Perm.swap _ _ _).cons _) ?_
      exact AW.meet [4, 5, 12] ⟨mb, fb, rb, rfl, by rw [← hfr, ← hrr]; rfl⟩
    · refine AXS.at rfl rfl (AXO.makeSliceE (k := (m0 c s).regs.length) (e := 3) (c := .int .i64 0) (z := .int .i64 0) (bytes := 8) rfl rfl hRl (by kernel_rfl) rfl (by omega) (by omega) fun rb => ?_) rfl
      refine AX.o (n := 3) 5 ?_
      refine AXO.makeSliceE (k := (m0 c s).flags.length) (e := 4) (c := .bool false) (z := .bool false) (bytes := 1) rfl rfl hFl (by kernel_rfl) rfl (by omega) (by omega) fun fb => ?_
      refine AX.o (n := 2) 13 ?_
      refine AXO.d (AOp.build (pl := [(0, 4), (4, 1), (5, 1), (6, 1), (7, 1), (8, 1), (9, 1), (10, 1), (11, 1), (12, 1), (13, 1)]) (z := .st [.st [.int .i64 0, .int .i64 0, .sl [], .sl []], .int .i64 0, .sl [], .sl [], nilS, .sl [], .sl [], .int .i64 0, .int .i64 0, .int .i64 0, .int .i64 0]) (by kernel_rfl) rfl rfl rfl) ?_
      refine AX.o (n := 1) 14 ?_
      refine AXO.box rfl rfl fun mb => ?_
      refine AX.o (n := 0) 15 ?_
      refine AXO.e ?_
      refine AX.done_keep [4, 5, 12] ?_
      exact AW.meet [4, 5, 12] ⟨mb, fb, rb, rfl, by rw [← hfr, ← hrr]; rfl⟩
  rintro af ah ⟨mb, fb, rb, rfl, rfl⟩
  repeat' (first | refine AW.re 2 1 ?_ | refine AW.jt ?_ | refine AW.jf ?_ | refine AW.jj (fun hb => ?_) (fun hb => ?_) | refine AW.go ?_ | fail)
  refine AW.prune [4, 5, 12, 13] (AW.loop (fun mz af h => ∃ (i : Nat) (fld : AV) (bk : RK) (Q : AH), i ≤ c.Arrays.length ∧ mz = c.Arrays.length - i ∧ af = [(4, .at c.av), (5, .at s.av), (12, .ref mb 0), (13, .int .i64 i)] ∧ h = .box mb (bxA c s G fuel fb rb fld) :: .row fb ((m0 c s).flags.map bav) :: .row rb ((m0 c s).regs.map iav) :: ((c.Arrays.take i).map (hasRow (m0 c s) bk) ++ Q) ∧ ((∀ a ∈ c.Arrays.take i, (bk a.Name).2 = ((m0 c s).rels a.Name).length) ∧ ((i = 0 ∧ fld = nilS ∧ Q = []) ∨ (0 < i ∧ ∃ ab cap : Nat, i ≤ cap ∧ fld = .osl ab i cap ∧ Q = [.row ab ((c.Arrays.take i).flatMap (tabA (m0 c s) bk) ++ List.replicate ((cap - i) * 3) .any)])))) c.Arrays.length ⟨0, nilS, fun _ => (0, 0), [], Nat.zero_le _, rfl, rfl, rfl, ⟨by simp, .inl ⟨rfl, rfl, rfl⟩⟩⟩ ?_)
  rintro mz af h ⟨i, fld, bk, Q, hi, rfl, rfl, rfl, he⟩
  refine AW.seq ?_
  by_cases hlt : i < c.Arrays.length
  all_goals obtain ⟨hbk, he⟩ := he
  · obtain ⟨x, hx⟩ := get_lt hlt
    have hx' : (c.Arrays.map GSym.av)[((i : Nat) : Int).toNat]? = some (.st [.str x.Name, .int .i64 x.Arity]) := map_get hx
    have hxm := List.mem_of_getElem? hx
    have hT := ref_TableNew s.Size x.Name x.Arity (hok.size x hxm)
    have hr0 := m0_rel (s := s) hk hxm
    have hrl : (powerR s.Size x.Arity).1.toNat = ((m0 c s).rels x.Name).length := by rw [hr0]; simp
    have hrw : List.replicate (powerR s.Size x.Arity).1.toNat (AV.bool false) = ((m0 c s).rels x.Name).map bav := by rw [hr0]; simp [bav]
    have hne := nd_take hk.arrs hx
    have htk : c.Arrays.take (i + 1) = c.Arrays.take i ++ [x] := by rw [List.take_add_one, hx]; rfl
    have htl : (c.Arrays.take i).length = i := by rw [List.length_take]; omega
    have hM : ∀ hb : Nat, (c.Arrays.take (i + 1)).map (hasRow (m0 c s) (updK bk x.Name (hb, ((m0 c s).rels x.Name).length))) = (c.Arrays.take i).map (hasRow (m0 c s) bk) ++ [.row hb (List.replicate (powerR s.Size x.Arity).1.toNat (.bool false))] := fun hb => by
      rw [htk, List.map_append]
      congr 1
      · exact List.map_congr_left fun a ha => by unfold hasRow updK; rw [if_neg (hne a ha)]
      · simp only [List.map_cons, List.map_nil, hasRow, updK, if_pos, hrw]
    have hTt : ∀ hb : Nat, (c.Arrays.take (i + 1)).flatMap (tabA (m0 c s) (updK bk x.Name (hb, ((m0 c s).rels x.Name).length))) = (c.Arrays.take i).flatMap (tabA (m0 c s) bk) ++ [.str x.Name, .int .i64 x.Arity, .osl hb (powerR s.Size x.Arity).1.toNat (powerR s.Size x.Arity).1.toNat] := fun hb => by
      rw [htk, List.flatMap_append]
      congr 1
      · rw [List.flatMap_def, List.flatMap_def]; congr 1; exact List.map_congr_left fun a ha => by unfold tabA updK; rw [if_neg (hne a ha)]
      · simp only [List.flatMap_cons, List.flatMap_nil, List.append_nil, tabA, updK, if_pos, hrl]
    have hbk' : ∀ hb : Nat, ∀ a ∈ c.Arrays.take (i + 1), (updK bk x.Name (hb, ((m0 c s).rels x.Name).length) a.Name).2 = ((m0 c s).rels a.Name).length := fun hb a ha => by
      rw [htk] at ha
      rcases List.mem_append.1 ha with ha | ha
      · unfold updK; rw [if_neg (hne a ha)]; exact hbk a ha
      · obtain rfl := List.mem_singleton.1 ha
        unfold updK; rw [if_pos rfl]
    repeat' (first | refine AW.re 3 5 ?_ | refine AW.jt ?_ | refine AW.jf ?_ | refine AW.jj (fun hb => ?_) (fun hb => ?_) | refine AW.go ?_ | fail)
    all_goals try (exfalso; simp only [decide_eq_true_eq, decide_eq_false_iff_not, List.length_map] at *; omega)
    rcases he with ⟨rfl, rfl, rfl⟩ | ⟨hi0, ab, cap, hcap, rfl, rfl⟩
    · repeat' (first | (refine AW.ex 5 [true] [4, 19, 20, 21, 24] ?_ <;> refine AQE.e ?_ <;> refine AQE.e ?_ <;> refine AQE.e ?_ <;> (first | refine AQE.p rfl AOp.fa ?_ | refine AQE.p rfl (AOp.fr 7) ?_) <;> refine AQE.hl ?_ <;> (first | refine AQE.p rfl AOp.fa ?_ | refine AQE.p rfl (AOp.fr 0) ?_) <;> (first | refine AQE.p rfl AOp.la ?_ | refine AQE.p rfl (AOp.ll 0) ?_ | refine AQE.pe rfl (AOp.ll 0) ?_) <;> (first | refine AQE.p rfl AOp.fa ?_ | refine AQE.p rfl (AOp.fr 2) ?_) <;> (first | refine AQE.p rfl AOp.la ?_ | refine AQE.p rfl (AOp.ll 0) ?_ | refine AQE.pe rfl (AOp.ll 0) ?_) <;> refine AQE.e ?_ <;> refine AQE.p rfl (AOp.index_sl rfl rfl (by omega) hx' (by kernel_rfl) rfl) ?_ <;> (first | refine AQE.p rfl AOp.fa ?_ | refine AQE.p rfl (AOp.fr 0) ?_) <;> (first | refine AQE.p rfl AOp.la ?_ | refine AQE.p rfl (AOp.ll 0) ?_ | refine AQE.pe rfl (AOp.ll 0) ?_) <;> (first | refine AQE.p rfl AOp.fa ?_ | refine AQE.p rfl (AOp.fr 2) ?_) <;> (first | refine AQE.p rfl AOp.la ?_ | refine AQE.p rfl (AOp.ll 0) ?_ | refine AQE.pe rfl (AOp.ll 0) ?_) <;> refine AQE.e ?_ <;> refine AQE.p rfl (AOp.index_sl rfl rfl (by omega) hx' (by kernel_rfl) rfl) ?_ <;> (first | refine AQE.p rfl AOp.fa ?_ | refine AQE.p rfl (AOp.fr 1) ?_) <;> (first | refine AQE.p rfl AOp.la ?_ | refine AQE.p rfl (AOp.ll 0) ?_ | refine AQE.pe rfl (AOp.ll 0) ?_) <;> refine AQE.hl ?_ <;> refine AQE.hl ?_ <;> refine AQE.hl ?_ <;> refine AQE.e ?_ <;> (first | refine AQE.p rfl AOp.fa ?_ | refine AQE.p rfl (AOp.fr 7) ?_) <;> refine AQE.hl ?_ <;> refine AQE.nil ?_) | refine AW.jt ?_ | refine AW.jf ?_ | refine AW.jj (fun hb => ?_) (fun hb => ?_) | refine AW.go ?_ | fail)
      refine AX.two (n := 4) 4 19 rfl ?_ ?_
      · refine AXS.at rfl rfl (AXO.d (AOp.load_leaf 0 rfl rfl rfl rfl (by kernel_rfl)) ?_) rfl
        refine AX.o (n := 3) 19 ?_
        refine AXO.callQ rfl rfl (Tri.behind hT _) rfl ?_ (by rintro _ _ ⟨_, ⟨_, e, _⟩, _⟩; cases e)
        rintro _ _ ⟨_, ⟨hb, e, rfl⟩, rfl⟩; injection e with e; subst e
        refine AX.o (n := 2) 20 ?_
        refine AXO.d (AOp.lit (e := 87) (sz := 3) (by kernel_rfl) rfl rfl rfl (P_one rfl) (by decide)) ?_
        refine AX.o (n := 1) 21 ?_
        refine AXO.append_own0 (e := 87) (sz := 3) (bytes := 48) rfl rfl rfl (by intro y hy; simp at hy; rcases hy with rfl | rfl | rfl <;> rfl) (by kernel_rfl) (by kernel_rfl) (by omega) fun ab cap hcap => ?_
        refine AX.o (n := 0) 24 ?_
        refine AXO.sl 2 fun _ => ?_
        refine AX.done_keep [4, 5, 12, 13] ?_
        refine AW.perm ((List.Perm.swap _ _ _).trans perm_end) ?_
        repeat' (first | (refine AW.r 4 ?_ <;> refine AL.es 1 ?_ <;> refine AL.d AOp.ad ?_ <;> refine AL.es 1 ?_ <;> refine AL.nil ?_) | refine AW.jt ?_ | refine AW.jf ?_ | refine AW.jj (fun hb => ?_) (fun hb => ?_) | refine AW.go ?_ | fail)
        refine AW.again_keep (c.Arrays.length - (0 + 1)) [4, 5, 12, 13] (by omega) ⟨0 + 1, .osl ab 1 cap, updK bk x.Name (hb, ((m0 c s).rels x.Name).length), [.row ab ((c.Arrays.take 1).flatMap (tabA (m0 c s) (updK bk x.Name (hb, ((m0 c s).rels x.Name).length))) ++ List.replicate ((cap - 1) * 3) .any)], hlt, rfl, rfl, ?_, hbk' hb, .inr ⟨by omega, ab, cap, hcap, rfl, rfl⟩⟩
        have h1 := hM hb; have h2 := hTt hb; rw [Nat.zero_add] at h1 h2 ⊢; rw [h1, h2]; rfl
      · refine AXS.at rfl rfl (AXO.callQ rfl rfl (Tri.behind hT _) rfl ?_ (by rintro _ _ ⟨_, ⟨_, e, _⟩, _⟩; cases e)) rfl
        rintro _ _ ⟨_, ⟨hb, e, rfl⟩, rfl⟩; injection e with e; subst e
        refine AX.two (n := 3) 4 20 rfl ?_ ?_
        · refine AXS.at rfl rfl (AXO.d (AOp.load_leaf 1 rfl rfl rfl rfl (by kernel_rfl)) ?_) rfl
          refine AX.o (n := 2) 20 ?_
          refine AXO.d (AOp.lit (e := 87) (sz := 3) (by kernel_rfl) rfl rfl rfl (P_one rfl) (by decide)) ?_
          refine AX.o (n := 1) 21 ?_
          refine AXO.append_own0 (e := 87) (sz := 3) (bytes := 48) rfl rfl rfl (by intro y hy; simp at hy; rcases hy with rfl | rfl | rfl <;> rfl) (by kernel_rfl) (by kernel_rfl) (by omega) fun ab cap hcap => ?_
          refine AX.o (n := 0) 24 ?_
          refine AXO.sl 2 fun _ => ?_
          refine AX.done_keep [4, 5, 12, 13] ?_
          refine AW.perm ((List.Perm.swap _ _ _).trans perm_end) ?_
          repeat' (first | (refine AW.r 4 ?_ <;> refine AL.es 1 ?_ <;> refine AL.d AOp.ad ?_ <;> refine AL.es 1 ?_ <;> refine AL.nil ?_) | refine AW.jt ?_ | refine AW.jf ?_ | refine AW.jj (fun hb => ?_) (fun hb => ?_) | refine AW.go ?_ | fail)
          refine AW.again_keep (c.Arrays.length - (0 + 1)) [4, 5, 12, 13] (by omega) ⟨0 + 1, .osl ab 1 cap, updK bk x.Name (hb, ((m0 c s).rels x.Name).length), [.row ab ((c.Arrays.take 1).flatMap (tabA (m0 c s) (updK bk x.Name (hb, ((m0 c s).rels x.Name).length))) ++ List.replicate ((cap - 1) * 3) .any)], hlt, rfl, rfl, ?_, hbk' hb, .inr ⟨by omega, ab, cap, hcap, rfl, rfl⟩⟩
          have h1 := hM hb; have h2 := hTt hb; rw [Nat.zero_add] at h1 h2 ⊢; rw [h1, h2]; rfl
        · refine AXS.at rfl rfl (AXO.d (AOp.lit (e := 87) (sz := 3) (by kernel_rfl) rfl rfl rfl (P_one rfl) (by decide)) ?_) rfl
          refine AX.o (n := 2) 4 ?_
          refine AXO.d (AOp.load_leaf 1 rfl rfl rfl rfl (by kernel_rfl)) ?_
          refine AX.o (n := 1) 21 ?_
          refine AXO.append_own0 (e := 87) (sz := 3) (bytes := 48) rfl rfl rfl (by intro y hy; simp at hy; rcases hy with rfl | rfl | rfl <;> rfl) (by kernel_rfl) (by kernel_rfl) (by omega) fun ab cap hcap => ?_
          refine AX.o (n := 0) 24 ?_
          refine AXO.sl 2 fun _ => ?_
          refine AX.done_keep [4, 5, 12, 13] ?_
          refine AW.perm ((List.Perm.swap _ _ _).trans perm_end) ?_
          repeat' (first | (refine AW.r 4 ?_ <;> refine AL.es 1 ?_ <;> refine AL.d AOp.ad ?_ <;> refine AL.es 1 ?_ <;> refine AL.nil ?_) | refine AW.jt ?_ | refine AW.jf ?_ | refine AW.jj (fun hb => ?_) (fun hb => ?_) | refine AW.go ?_ | fail)
          refine AW.again_keep (c.Arrays.length - (0 + 1)) [4, 5, 12, 13] (by omega) ⟨0 + 1, .osl ab 1 cap, updK bk x.Name (hb, ((m0 c s).rels x.Name).length), [.row ab ((c.Arrays.take 1).flatMap (tabA (m0 c s) (updK bk x.Name (hb, ((m0 c s).rels x.Name).length))) ++ List.replicate ((cap - 1) * 3) .any)], hlt, rfl, rfl, ?_, hbk' hb, .inr ⟨by omega, ab, cap, hcap, rfl, rfl⟩⟩
          have h1 := hM hb; have h2 := hTt hb; rw [Nat.zero_add] at h1 h2 ⊢; rw [h1, h2]; rfl
    · refine AW.perm perm_front ?_
      repeat' (first | (refine AW.ex 5 [true, true] [4, 19, 20, 21, 24] ?_ <;> refine AQE.e ?_ <;> refine AQE.e ?_ <;> refine AQE.e ?_ <;> (first | refine AQE.p rfl AOp.fa ?_ | refine AQE.p rfl (AOp.fr 7) ?_) <;> refine AQE.hl ?_ <;> (first | refine AQE.p rfl AOp.fa ?_ | refine AQE.p rfl (AOp.fr 0) ?_) <;> (first | refine AQE.p rfl AOp.la ?_ | refine AQE.p rfl (AOp.ll 0) ?_ | refine AQE.pe rfl (AOp.ll 0) ?_ | refine AQE.p rfl (AOp.ll 1) ?_ | refine AQE.pe rfl (AOp.ll 1) ?_) <;> (first | refine AQE.p rfl AOp.fa ?_ | refine AQE.p rfl (AOp.fr 2) ?_) <;> (first | refine AQE.p rfl AOp.la ?_ | refine AQE.p rfl (AOp.ll 0) ?_ | refine AQE.pe rfl (AOp.ll 0) ?_ | refine AQE.p rfl (AOp.ll 1) ?_ | refine AQE.pe rfl (AOp.ll 1) ?_) <;> refine AQE.e ?_ <;> refine AQE.p rfl (AOp.index_sl rfl rfl (by omega) hx' (by kernel_rfl) rfl) ?_ <;> (first | refine AQE.p rfl AOp.fa ?_ | refine AQE.p rfl (AOp.fr 0) ?_) <;> (first | refine AQE.p rfl AOp.la ?_ | refine AQE.p rfl (AOp.ll 0) ?_ | refine AQE.pe rfl (AOp.ll 0) ?_ | refine AQE.p rfl (AOp.ll 1) ?_ | refine AQE.pe rfl (AOp.ll 1) ?_) <;> (first | refine AQE.p rfl AOp.fa ?_ | refine AQE.p rfl (AOp.fr 2) ?_) <;> (first | refine AQE.p rfl AOp.la ?_ | refine AQE.p rfl (AOp.ll 0) ?_ | refine AQE.pe rfl (AOp.ll 0) ?_ | refine AQE.p rfl (AOp.ll 1) ?_ | refine AQE.pe rfl (AOp.ll 1) ?_) <;> refine AQE.e ?_ <;> refine AQE.p rfl (AOp.index_sl rfl rfl (by omega) hx' (by kernel_rfl) rfl) ?_ <;> (first | refine AQE.p rfl AOp.fa ?_ | refine AQE.p rfl (AOp.fr 1) ?_) <;> (first | refine AQE.p rfl AOp.la ?_ | refine AQE.p rfl (AOp.ll 0) ?_ | refine AQE.pe rfl (AOp.ll 0) ?_ | refine AQE.p rfl (AOp.ll 1) ?_ | refine AQE.pe rfl (AOp.ll 1) ?_) <;> refine AQE.hl ?_ <;> refine AQE.hl ?_ <;> refine AQE.hl ?_ <;> refine AQE.e ?_ <;> (first | refine AQE.p rfl AOp.fa ?_ | refine AQE.p rfl (AOp.fr 7) ?_) <;> refine AQE.hl ?_ <;> refine AQE.nil ?_) | refine AW.jt ?_ | refine AW.jf ?_ | refine AW.jj (fun hb => ?_) (fun hb => ?_) | refine AW.go ?_ | fail)
      refine AX.two (n := 4) 4 19 rfl ?_ ?_
      · refine AXS.at rfl rfl (AXO.d (AOp.load_leaf 1 rfl rfl rfl rfl (by kernel_rfl)) ?_) rfl
        refine AX.o (n := 3) 19 ?_
        refine AXO.callQ rfl rfl (Tri.behind hT _) rfl ?_ (by rintro _ _ ⟨_, ⟨_, e, _⟩, _⟩; cases e)
        rintro _ _ ⟨_, ⟨hb, e, rfl⟩, rfl⟩; injection e with e; subst e
        refine AX.o (n := 2) 20 ?_
        refine AXO.d (AOp.lit (e := 87) (sz := 3) (by kernel_rfl) rfl rfl rfl (P_one rfl) (by decide)) ?_
        refine AX.o (n := 1) 21 ?_
        refine AXO.append_own (i := 1) (us := (c.Arrays.take i).flatMap (tabA (m0 c s) bk)) (e := 87) (sz := 3) (bytes := 48) rfl rfl (by rw [tab_len, htl]) rfl rfl (by intro y hy; simp at hy; rcases hy with rfl | rfl | rfl <;> rfl) rfl (by kernel_rfl) (by kernel_rfl) (by omega) (by omega) fun ab' cap' hcap' => ?_
        refine AX.o (n := 0) 24 ?_
        refine AXO.sl 2 fun _ => ?_
        refine AX.done_keep [4, 5, 12, 13] ?_
        refine AW.perm perm_end ?_
        repeat' (first | (refine AW.r 4 ?_ <;> refine AL.es 1 ?_ <;> refine AL.d AOp.ad ?_ <;> refine AL.es 1 ?_ <;> refine AL.nil ?_) | refine AW.jt ?_ | refine AW.jf ?_ | refine AW.jj (fun hb => ?_) (fun hb => ?_) | refine AW.go ?_ | fail)
        refine AW.again_keep (c.Arrays.length - (i + 1)) [4, 5, 12, 13] (by omega) ⟨i + 1, .osl ab' (i + 1) cap', updK bk x.Name (hb, ((m0 c s).rels x.Name).length), [.row ab' ((c.Arrays.take (i + 1)).flatMap (tabA (m0 c s) (updK bk x.Name (hb, ((m0 c s).rels x.Name).length))) ++ List.replicate ((cap' - (i + 1)) * 3) .any)], hlt, rfl, rfl, ?_, hbk' hb, .inr ⟨by omega, ab', cap', hcap', rfl, rfl⟩⟩
        rw [hM hb, hTt hb, List.append_assoc (List.map _ _)]; rfl
      · refine AXS.at rfl rfl (AXO.callQ rfl rfl (Tri.behind hT _) rfl ?_ (by rintro _ _ ⟨_, ⟨_, e, _⟩, _⟩; cases e)) rfl
        rintro _ _ ⟨_, ⟨hb, e, rfl⟩, rfl⟩; injection e with e; subst e
        refine AX.two (n := 3) 4 20 rfl ?_ ?_
        · refine AXS.at rfl rfl (AXO.d (AOp.load_leaf 2 rfl rfl rfl rfl (by kernel_rfl)) ?_) rfl
          refine AX.o (n := 2) 20 ?_
          refine AXO.d (AOp.lit (e := 87) (sz := 3) (by kernel_rfl) rfl rfl rfl (P_one rfl) (by decide)) ?_
          refine AX.o (n := 1) 21 ?_
          refine AXO.append_own (i := 1) (us := (c.Arrays.take i).flatMap (tabA (m0 c s) bk)) (e := 87) (sz := 3) (bytes := 48) rfl rfl (by rw [tab_len, htl]) rfl rfl (by intro y hy; simp at hy; rcases hy with rfl | rfl | rfl <;> rfl) rfl (by kernel_rfl) (by kernel_rfl) (by omega) (by omega) fun ab' cap' hcap' => ?_
          refine AX.o (n := 0) 24 ?_
          refine AXO.sl 2 fun _ => ?_
          refine AX.done_keep [4, 5, 12, 13] ?_
          refine AW.perm perm_end ?_
          repeat' (first | (refine AW.r 4 ?_ <;> refine AL.es 1 ?_ <;> refine AL.d AOp.ad ?_ <;> refine AL.es 1 ?_ <;> refine AL.nil ?_) | refine AW.jt ?_ | refine AW.jf ?_ | refine AW.jj (fun hb => ?_) (fun hb => ?_) | refine AW.go ?_ | fail)
          refine AW.again_keep (c.Arrays.length - (i + 1)) [4, 5, 12, 13] (by omega) ⟨i + 1, .osl ab' (i + 1) cap', updK bk x.Name (hb, ((m0 c s).rels x.Name).length), [.row ab' ((c.Arrays.take (i + 1)).flatMap (tabA (m0 c s) (updK bk x.Name (hb, ((m0 c s).rels x.Name).length))) ++ List.replicate ((cap' - (i + 1)) * 3) .any)], hlt, rfl, rfl, ?_, hbk' hb, .inr ⟨by omega, ab', cap', hcap', rfl, rfl⟩⟩
          rw [hM hb, hTt hb, List.append_assoc (List.map _ _)]; rfl
        · refine AXS.at rfl rfl (AXO.d (AOp.lit (e := 87) (sz := 3) (by kernel_rfl) rfl rfl rfl (P_one rfl) (by decide)) ?_) rfl
          refine AX.o (n := 2) 4 ?_
          refine AXO.d (AOp.load_leaf 2 rfl rfl rfl rfl (by kernel_rfl)) ?_
          refine AX.o (n := 1) 21 ?_
          refine AXO.append_own (i := 1) (us := (c.Arrays.take i).flatMap (tabA (m0 c s) bk)) (e := 87) (sz := 3) (bytes := 48) rfl rfl (by rw [tab_len, htl]) rfl rfl (by intro y hy; simp at hy; rcases hy with rfl | rfl | rfl <;> rfl) rfl (by kernel_rfl) (by kernel_rfl) (by omega) (by omega) fun ab' cap' hcap' => ?_
          refine AX.o (n := 0) 24 ?_
          refine AXO.sl 2 fun _ => ?_
          refine AX.done_keep [4, 5, 12, 13] ?_
          refine AW.perm perm_end ?_
          repeat' (first | (refine AW.r 4 ?_ <;> refine AL.es 1 ?_ <;> refine AL.d AOp.ad ?_ <;> refine AL.es 1 ?_ <;> refine AL.nil ?_) | refine AW.jt ?_ | refine AW.jf ?_ | refine AW.jj (fun hb => ?_) (fun hb => ?_) | refine AW.go ?_ | fail)
          refine AW.again_keep (c.Arrays.length - (i + 1)) [4, 5, 12, 13] (by omega) ⟨i + 1, .osl ab' (i + 1) cap', updK bk x.Name (hb, ((m0 c s).rels x.Name).length), [.row ab' ((c.Arrays.take (i + 1)).flatMap (tabA (m0 c s) (updK bk x.Name (hb, ((m0 c s).rels x.Name).length))) ++ List.replicate ((cap' - (i + 1)) * 3) .any)], hlt, rfl, rfl, ?_, hbk' hb, .inr ⟨by omega, ab', cap', hcap', rfl, rfl⟩⟩
          rw [hM hb, hTt hb, List.append_assoc (List.map _ _)]; rfl
  · have hti : c.Arrays.take i = c.Arrays := List.take_of_length_le (by omega)
    rw [hti] at hbk he ⊢
    repeat' (first | refine AW.re 3 5 ?_ | refine AW.jt ?_ | refine AW.jf ?_ | refine AW.jj (fun hb => ?_) (fun hb => ?_) | refine AW.go ?_ | fail)
    all_goals try (exfalso; simp only [decide_eq_true_eq, decide_eq_false_iff_not, List.length_map] at *; omega)
    have hgo : ∃ (A : Option Nat) (cap : Nat), (c.Arrays ≠ [] → ∃ b, A = some b) ∧ ∀ {C : Cx} {ds : List Deferred} {ks : List K} {af : AF}, AW C ds ks af ((m0 c s).rah (mkX c s G fuel mb fb rb A cap) bk 0) → AW C ds ks af (.box mb (bxA c s G fuel fb rb fld) :: .row fb ((m0 c s).flags.map bav) :: .row rb ((m0 c s).regs.map iav) :: (c.Arrays.map (hasRow (m0 c s) bk) ++ Q)) := by
      rcases he with ⟨h0, rfl, rfl⟩ | ⟨hi0, ab, cap, hcap, rfl, rfl⟩
      · have hA : c.Arrays = [] := List.length_eq_zero_iff.1 (by omega)
        refine ⟨none, 0, fun h => absurd hA h, fun {C ds ks af} h => AW.frame_eq rfl ?_ h⟩
        simp only [MS.rah, MS.rbox, bxA, mkX, arrRow, hA, nilS]
        rfl
      · have hil : i = c.Arrays.length := by omega
        refine ⟨some ab, cap, fun _ => ⟨ab, rfl⟩, fun {C ds ks af} h => ?_⟩
        refine AW.perm perm_front ?_
        refine AW.row_pre 0 rfl ?_
        refine AW.recast 1 (c' := bxA c s G fuel fb rb (.val (.slice (some ⟨ab, 0, none⟩) i cap))) rfl (fun S w cs h => relc_set 4 _ rfl (fun cs h => osl_val h) h) ?_
        refine AW.perm perm_front.symm ?_
        rw [hil]
        exact h
    obtain ⟨A, cap, hAA, hgo⟩ := hgo
    refine hgo ?_
    have hX := mkX_st (G := G) (mb := mb) (fb := fb) (rb := rb) (cap := cap) hok hk hal hAA
    have hRF : RFit (mkX c s G fuel mb fb rb A cap) c.Flags.toNat c.Regs.toNat (sigOf c) (ghostB c) (m0 c s) bk := by
      refine ⟨m0_fit hG hok hk (ghostB c) (ghost_nd hk) (fun k h => ?_), fun _ _ => rfl, fun k n h => ?_⟩
      · show k ∈ (checkedP c).S.map (·.1) ++ c.Arrays.map (·.Name)
        exact List.mem_append.2 h
      · obtain ⟨x, hx, rfl, _⟩ := arOf_some h
        rw [hbk x hx]
        exact Nat.le_refl _
    have hRun := ref_list hX (cntL c.Body) c.Body (Nat.le_refl _) hbl hc.2.2.2.2 hk.body hall (m0 c s) bk hRF
    repeat' (first | (refine AW.r 6 ?_ <;> refine AL.es 3 ?_ <;> refine AL.callR rfl rfl hRun rfl fun o m' bk' hx hf => ?_ <;> refine AL.nil ?_) | refine AW.jt ?_ | refine AW.jf ?_ | refine AW.jj (fun hb => ?_) (fun hb => ?_) | refine AW.go ?_ | fail)
    cases o with
    | none =>
      have hfl2 := hf.mf.flen
      have g0 := flag_get (fl := m'.flags) (x := 0) (by omega)
      repeat' (first | (refine AW.r 7 ?_ <;> refine AL.es 2 ?_ <;> (first | refine AL.d AOp.fa ?_ | refine AL.d (AOp.fr 13) ?_) <;> (first | refine AL.d (AOp.load_cell 1 rfl rfl g0 rfl (by kernel_rfl)) ?_ | refine AL.d AOp.la ?_ | refine AL.d (AOp.ll 0) ?_) <;> refine AL.es 1 ?_ <;> refine AL.nil ?_) | (refine AW.dq 9 ?_ <;> refine AQ.es 2 ?_ <;> (first | refine AQ.p rfl AOp.fa ?_ | refine AQ.p rfl (AOp.fr 5) ?_) <;> (first | refine AQ.p rfl (AOp.load_cell 1 rfl rfl g0 rfl (by kernel_rfl)) ?_ | refine AQ.p rfl AOp.la ?_ | refine AQ.p rfl (AOp.ll 0) ?_) <;> refine AQ.p rfl (AOp.index_osl rfl rfl (by omega) (by omega) (by kernel_rfl)) ?_ <;> (first | refine AQ.p rfl (AOp.load_cell 1 rfl rfl g0 rfl (by kernel_rfl)) ?_ | refine AQ.p rfl AOp.la ?_ | refine AQ.p rfl (AOp.ll 0) ?_) <;> refine AQ.es 2 ?_ <;> (first | refine AQ.p rfl AOp.fa ?_ | refine AQ.p rfl (AOp.fr 11) ?_) <;> (first | refine AQ.p rfl (AOp.load_cell 1 rfl rfl g0 rfl (by kernel_rfl)) ?_ | refine AQ.p rfl AOp.la ?_ | refine AQ.p rfl (AOp.ll 0) ?_) <;> refine AQ.es 2 ?_ <;> (first | refine AQ.p rfl AOp.fa ?_ | refine AQ.p rfl (AOp.fr 10) ?_) <;> (first | refine AQ.p rfl (AOp.load_cell 1 rfl rfl g0 rfl (by kernel_rfl)) ?_ | refine AQ.p rfl AOp.la ?_ | refine AQ.p rfl (AOp.ll 0) ?_) <;> refine AQ.es 4 ?_ <;> refine AQ.nil ?_) | refine AW.jt ?_ | refine AW.jf ?_ | refine AW.jj (fun hb => ?_) (fun hb => ?_) | refine AW.go ?_ | fail)
      exact AW.ret_drop rfl (List.nil_sublist _) ⟨none, m', hx, rfl⟩
    | some e =>
      rcases hx.err e rfl with rfl | rfl
      all_goals
        repeat' (first | (refine AW.r 7 ?_ <;> refine AL.es 2 ?_ <;> (first | refine AL.d AOp.fa ?_ | refine AL.d (AOp.fr 13) ?_) <;> (first | refine AL.d AOp.la ?_ | refine AL.d (AOp.ll 0) ?_) <;> refine AL.es 1 ?_ <;> refine AL.nil ?_) | (refine AW.dq 8 ?_ <;> refine AQ.es 2 ?_ <;> (first | refine AQ.p rfl AOp.fa ?_ | refine AQ.p rfl (AOp.fr 13) ?_) <;> (first | refine AQ.p rfl AOp.la ?_ | refine AQ.p rfl (AOp.ll 0) ?_) <;> refine AQ.es 4 ?_ <;> refine AQ.nil ?_) | refine AW.jt ?_ | refine AW.jf ?_ | refine AW.jj (fun hb => ?_) (fun hb => ?_) | refine AW.go ?_ | fail)
        exact AW.ret_drop rfl (List.nil_sublist _) ⟨some _, m', hx, rfl⟩
end Go.Proofs.YtdedkpfbfklgbaaGreat
namespace Go.Proofs.YtdedkpfbfklgbaaGreat
open Go.RowKit Go.SX
set_option maxRecDepth 100000
set_option maxHeartbeats 4000000
set_option linter.unusedVariables false
set_option linter.unusedSimpArgs false
theorem law_CodeRuns (c : GCode) (s : GStr) (gs : List Bool) (fuel : Int) (hc : c.Ok) (hs : s.Ok) (hgs : gs.length ≤ 4611686018427387904) :
    Tri Tryz.prog 3 [c.av, s.av, .st [bools gs, .int .i64 fuel]] [] (D (.bool true) []) := by
  have hA := law_alive
  have hF := law_Few c hc 300 (by omega)
  have hFS := law_FewS s hs
  have hlen : ((gs.map bav).length : Int) = gs.length := by simp
  refine Tri.enter 110 Tryz.func3 rfl rfl rfl rfl fun Fr w0 => ?_
  repeat' (first | (refine AW.r 0 ?_ <;> (first | refine AL.d (AOp.box_ro rfl rfl) ?_ | refine AL.d (AOp.box_ro rfl rfl) ?_) <;> (first | refine AL.d (AOp.box_ro rfl rfl) ?_ | refine AL.d (AOp.box_ro rfl rfl) ?_) <;> (first | refine AL.d (AOp.box_ro rfl rfl) ?_ | refine AL.d (AOp.box_ro rfl rfl) ?_) <;> refine AL.es 1 ?_ <;> refine AL.nil ?_) | refine AW.jt ?_ | refine AW.jf ?_ | refine AW.jj (fun hb => ?_) (fun hb => ?_) | refine AW.go ?_ | fail)
  refine AW.cut (fun af ah => ∃ v : Bool, af = [(3, .at c.av), (4, .at s.av), (5, .at (.st [bools gs, .int .i64 fuel])), (40, .bool v)] ∧ ah = [] ∧ (v = false → fewC c 300 = true)) ?_ ?_
  · repeat' (first | (refine AW.r 1 ?_ <;> refine AL.es 1 ?_ <;> (first | ((refine AL.callQ rfl rfl hFS rfl ?_ ?_; rotate_left; rintro _ _ ⟨_, e, _⟩; cases e; rintro _ _ ⟨bS, e, rfl⟩; injection e with e; subst e)) | refine AL.d (AOp.call rfl rfl hF) ?_) <;> refine AL.es 2 ?_ <;> (first | refine AL.es 1 ?_ | (refine AL.gx (fun hb => ?_) (fun hb => ?_) <;> refine AL.es 1 ?_)) <;> (first | (refine AL.gd ?_; refine AL.d (AOp.lit (t := 53) (e := 28) (sz := 2) (by kernel_rfl) rfl rfl rfl (by simp [AV.size, AV.sizes, GStr.av]) (by decide)) ?_) | refine AL.gs ?_ | refine AL.gu ?_) <;> (first | (refine AL.gd ?_; (first | ((refine AL.callQ rfl rfl hFS rfl ?_ ?_; rotate_left; rintro _ _ ⟨_, e, _⟩; cases e; rintro _ _ ⟨bS, e, rfl⟩; injection e with e; subst e)) | refine AL.d (AOp.call rfl rfl hF) ?_)) | refine AL.gs ?_ | refine AL.gu ?_) <;> refine AL.es 3 ?_ <;> (first | refine AL.es 6 ?_ | (refine AL.gx (fun hb => ?_) (fun hb => ?_) <;> refine AL.es 6 ?_)) <;> (first | refine AL.es 4 ?_ | (refine AL.gx (fun hb => ?_) (fun hb => ?_) <;> refine AL.es 4 ?_)) <;> (first | refine AL.es 5 ?_ | (refine AL.gx (fun hb => ?_) (fun hb => ?_) <;> refine AL.es 5 ?_)) <;> refine AL.nil ?_) | refine AW.jt ?_ | refine AW.jf ?_ | refine AW.jj (fun hb => ?_) (fun hb => ?_) | refine AW.go ?_ | fail)
    all_goals (refine AW.meet [3, 4, 5, 40] ⟨_, rfl, rfl, fun h => ?_⟩)
    all_goals first
      | (simp_all; done)
  rintro af ah ⟨v, rfl, rfl, hv⟩
  cases v with
  | true =>
    repeat' (first | (refine AW.r 2 ?_ <;> refine AL.d (AOp.call rfl rfl hA) ?_ <;> refine AL.es 1 ?_ <;> refine AL.nil ?_) | refine AW.jt ?_ | refine AW.jf ?_ | refine AW.jj (fun hb => ?_) (fun hb => ?_) | refine AW.go ?_ | fail)
    exact AW.retv rfl ⟨rfl, rfl⟩
  | false =>
    have hfew := hv rfl
    have hcnt := few_cnt_ (most := 300) hc hfew
    obtain ⟨b, n, g, e, hR, hRun⟩ := code_RunD c s gs fuel hc hs hgs
    have hCk := ref_Check c s fuel hc hs (by omega)
    obtain ⟨k1, k2⟩ := check_run hR
    by_cases hz : checkR c s fuel = 0
    · rw [hz] at hCk
      have hok := k2 hz
      have hRR := ref_Run c s gs fuel hc hs hgs hok
      have hres : ∀ o m, Ex ⟨s.Size, gs, fuel⟩ (.l c.Body) (m0 c s) o m → resV o m = .tup [.bool b, .int .i64 n, .int .i64 g, .int .i64 e] := fun o m hx => by
        cases hR with
        | form h => rcases h with h | h; rw [hok.bad] at h; cases h; rw [hok.valid] at h; cases h
        | name h1 h2 p hp h => have := hok.found p hp; omega
        | arg h1 h2 h3 h => have := hok.fuel; omega
        | size h1 h2 h3 h4 a ha h => exact absurd (hok.size a ha) h
        | ok h hx2 => obtain ⟨rfl, rfl⟩ := hx.det hx2; rfl
        | stop h hx2 => obtain ⟨rfl, rfl⟩ := hx.det hx2; rfl
      have hRR' : Tri Tryz.prog 10 [c.av, s.av, bools gs, .int .i64 fuel] [] (D (.tup [.bool b, .int .i64 n, .int .i64 g, .int .i64 e]) []) := by
        refine (Tri.forget (Ψ := fun x => x = .ret (.tup [.bool b, .int .i64 n, .int .i64 g, .int .i64 e])) (hRR.mono fun x h ⟨o, m, h1, h2⟩ => by rw [h2, hres o m h1])).mono fun x h k => k
      repeat' (first | (refine AW.r 3 ?_ <;> refine AL.es 6 ?_ <;> (first | refine AL.d (AOp.call rfl rfl hRun) ?_ | refine AL.d (AOp.call rfl rfl hCk) ?_ | refine AL.d (AOp.call rfl rfl hRR') ?_ | refine AL.d (AOp.call rfl rfl hA) ?_) <;> refine AL.es 9 ?_ <;> refine AL.nil ?_) | (refine AW.r 4 ?_ <;> refine AL.es 4 ?_ <;> (first | refine AL.d (AOp.call rfl rfl hRun) ?_ | refine AL.d (AOp.call rfl rfl hCk) ?_ | refine AL.d (AOp.call rfl rfl hRR') ?_ | refine AL.d (AOp.call rfl rfl hA) ?_) <;> refine AL.es 1 ?_ <;> refine AL.nil ?_) | refine AW.re 5 2 ?_ | (refine AW.r 7 ?_ <;> refine AL.es 6 ?_ <;> (first | refine AL.d (AOp.call rfl rfl hRun) ?_ | refine AL.d (AOp.call rfl rfl hCk) ?_ | refine AL.d (AOp.call rfl rfl hRR') ?_ | refine AL.d (AOp.call rfl rfl hA) ?_) <;> refine AL.es 9 ?_ <;> refine AL.nil ?_) | (refine AW.r 8 ?_ <;> refine AL.es 2 ?_ <;> (first | refine AL.e ?_ | refine AL.d AOp.be ?_) <;> refine AL.es 1 ?_ <;> (first | refine AL.es 5 ?_ | (refine AL.gx (fun hb => ?_) (fun hb => ?_) <;> refine AL.es 5 ?_)) <;> (first | refine AL.es 5 ?_ | (refine AL.gx (fun hb => ?_) (fun hb => ?_) <;> refine AL.es 5 ?_)) <;> (first | refine AL.es 5 ?_ | (refine AL.gx (fun hb => ?_) (fun hb => ?_) <;> refine AL.es 5 ?_)) <;> (first | (refine AL.gd ?_; (first | refine AL.d (AOp.call rfl rfl hRun) ?_ | refine AL.d (AOp.call rfl rfl hCk) ?_ | refine AL.d (AOp.call rfl rfl hRR') ?_ | refine AL.d (AOp.call rfl rfl hA) ?_)) | refine AL.gs ?_ | refine AL.gu ?_ | (refine AL.gx (fun hb => ?_) (fun hb => ?_) <;> first | (refine AL.gd ?_; (first | refine AL.d (AOp.call rfl rfl hRun) ?_ | refine AL.d (AOp.call rfl rfl hCk) ?_ | refine AL.d (AOp.call rfl rfl hRR') ?_ | refine AL.d (AOp.call rfl rfl hA) ?_)) | refine AL.gs ?_)) <;> refine AL.es 2 ?_ <;> refine AL.nil ?_) | refine AW.jt ?_ | refine AW.jf ?_ | refine AW.jj (fun hb => ?_) (fun hb => ?_) | refine AW.go ?_ | fail)
      all_goals first
        | exact AW.retv rfl ⟨rfl, rfl⟩
        | (exfalso; simp at *; done)
        | (exfalso; cases b <;> simp at * <;> done)
    · obtain ⟨rfl, rfl, rfl, rfl⟩ := k1 hz
      repeat' (first | (refine AW.r 3 ?_ <;> refine AL.es 6 ?_ <;> (first | refine AL.d (AOp.call rfl rfl hRun) ?_ | refine AL.d (AOp.call rfl rfl hCk) ?_ | refine AL.d (AOp.call rfl rfl hA) ?_) <;> refine AL.es 9 ?_ <;> refine AL.nil ?_) | (refine AW.r 4 ?_ <;> refine AL.es 4 ?_ <;> (first | refine AL.d (AOp.call rfl rfl hRun) ?_ | refine AL.d (AOp.call rfl rfl hCk) ?_ | refine AL.d (AOp.call rfl rfl hA) ?_) <;> refine AL.es 1 ?_ <;> refine AL.nil ?_) | refine AW.re 5 2 ?_ | (refine AW.r 6 ?_ <;> refine AL.es 4 ?_ <;> (first | refine AL.es 4 ?_ | (refine AL.gx (fun hb => ?_) (fun hb => ?_) <;> refine AL.es 4 ?_)) <;> (first | refine AL.es 2 ?_ | (refine AL.gx (fun hb => ?_) (fun hb => ?_) <;> refine AL.es 2 ?_)) <;> (first | (refine AL.gd ?_; refine AL.d AOp.ad ?_) | refine AL.gs ?_ | refine AL.gu ?_) <;> refine AL.es 3 ?_ <;> (first | (refine AL.gd ?_; (first | refine AL.d (AOp.call rfl rfl hRun) ?_ | refine AL.d (AOp.call rfl rfl hCk) ?_ | refine AL.d (AOp.call rfl rfl hA) ?_)) | refine AL.gs ?_ | refine AL.gu ?_ | (refine AL.gx (fun hb => ?_) (fun hb => ?_) <;> first | (refine AL.gd ?_; (first | refine AL.d (AOp.call rfl rfl hRun) ?_ | refine AL.d (AOp.call rfl rfl hCk) ?_ | refine AL.d (AOp.call rfl rfl hA) ?_)) | refine AL.gs ?_)) <;> refine AL.es 2 ?_ <;> refine AL.nil ?_) | refine AW.jt ?_ | refine AW.jf ?_ | refine AW.jj (fun hb => ?_) (fun hb => ?_) | refine AW.go ?_ | fail)
      all_goals first
        | exact AW.retv rfl ⟨rfl, rfl⟩
        | (exfalso; simp at *; done)
        | (exfalso; simp at hb; exact hz hb)
end Go.Proofs.YtdedkpfbfklgbaaGreat
namespace Go.Proofs.YtdedkpfbfklgbaaGreat
open Go.RowKit Go.SX
set_option maxRecDepth 100000
set_option linter.unusedVariables false
section
variable {H : Type} {enc : TypeId × Value → H} {w : World}
theorem rdInt (N : Nat) : Rd enc Tryz.prog w N 3 iav iOk := Rd.int' (by kernel_rfl)
theorem rdStr (N : Nat) : Rd enc Tryz.prog w N 9 AV.str strOk := Rd.str' (by kernel_rfl)
theorem rdBool (N : Nat) : Rd enc Tryz.prog w N 4 bav (fun _ => True) := Rd.bool' (by kernel_rfl)
theorem rdInts (N : Nat) : Rd enc Tryz.prog w N 40 ints (lenOk 8 iOk) := Rd.slice' (by kernel_rfl) (rdInt N)
theorem rdBools (N : Nat) : Rd enc Tryz.prog w N 29 bools (lenOk 1 fun _ => True) := Rd.slice' (by kernel_rfl) (rdBool N)
theorem rdIntss (N : Nat) : Rd enc Tryz.prog w N 54 (fun l => .sl (l.map ints)) (lenOk 24 (lenOk 8 iOk)) := Rd.slice' (by kernel_rfl) (rdInts N)
theorem rdSym : ∀ N : Nat, Rd enc Tryz.prog w N 74 GSym.av GSym.Ok := Rd.of_succ fun N =>
  Rd.of_q (RdQ.struct' (by kernel_rfl) (.cons (rdStr N).q (.cons (rdInt N).q (.nil)))) fun v h => by
    obtain ⟨vs, rfl, h⟩ := h
    obtain ⟨_, v1, rfl, ⟨a, rfl, ha⟩, h1⟩ := h.un
    obtain ⟨_, v2, rfl, ⟨b, rfl, hb⟩, h2⟩ := h1.un
    obtain rfl := h2.un0
    exact ⟨⟨a, b⟩, rfl, ha, hb⟩
theorem rdSyms (N : Nat) : Rd enc Tryz.prog w N 22 (fun l => .sl (l.map GSym.av)) (lenOk 24 GSym.Ok) := Rd.slice' (by kernel_rfl) (rdSym N)
theorem rdRel : ∀ N : Nat, Rd enc Tryz.prog w N 56 GRel.av GRel.Ok := Rd.of_succ fun N =>
  Rd.of_q (RdQ.struct' (by kernel_rfl) (.cons (rdStr N).q (.cons (rdInt N).q (.cons (rdIntss N).q (.nil))))) fun v h => by
    obtain ⟨vs, rfl, h⟩ := h
    obtain ⟨_, v1, rfl, ⟨a, rfl, ha⟩, h1⟩ := h.un
    obtain ⟨_, v2, rfl, ⟨b, rfl, hb⟩, h2⟩ := h1.un
    obtain ⟨_, v3, rfl, ⟨c, rfl, hc⟩, h3⟩ := h2.un
    obtain rfl := h3.un0
    exact ⟨⟨a, b, c⟩, rfl, ha, hb, hc⟩
theorem rdStr_ : ∀ N : Nat, Rd enc Tryz.prog w N 28 GStr.av GStr.Ok := Rd.of_succ fun N =>
  Rd.of_q (RdQ.struct' (by kernel_rfl) (.cons (rdInt N).q (.cons (Rd.slice' (T := 26) (n := 48) (by kernel_rfl) (rdRel N)).q (.nil)))) fun v h => by
    obtain ⟨vs, rfl, h⟩ := h
    obtain ⟨_, v1, rfl, ⟨a, rfl, ha⟩, h1⟩ := h.un
    obtain ⟨_, v2, rfl, ⟨b, rfl, hb⟩, h2⟩ := h1.un
    obtain rfl := h2.un0
    exact ⟨⟨a, b⟩, rfl, ha, hb⟩
theorem rdLit : ∀ N : Nat, Rd enc Tryz.prog w N 91 GLit.av GLit.Ok := Rd.of_succ fun N =>
  Rd.of_q (RdQ.struct' (by kernel_rfl) (.cons (rdInt N).q (.cons (rdBool N).q (.cons (rdStr N).q (.cons (rdInts N).q (.nil)))))) fun v h => by
    obtain ⟨vs, rfl, h⟩ := h
    obtain ⟨_, v1, rfl, ⟨a, rfl, ha⟩, h1⟩ := h.un
    obtain ⟨_, v2, rfl, ⟨b, rfl, hb⟩, h2⟩ := h1.un
    obtain ⟨_, v3, rfl, ⟨c, rfl, hc⟩, h3⟩ := h2.un
    obtain ⟨_, v4, rfl, ⟨d, rfl, hd⟩, h4⟩ := h3.un
    obtain rfl := h4.un0
    exact ⟨⟨a, b, c, d⟩, rfl, ha, hc, hd⟩
theorem rdStmt : ∀ N : Nat, Rd enc Tryz.prog w N 93 GStmt.av GStmt.Ok := Rd.all fun N ih =>
  Rd.of_q (RdQ.struct' (by kernel_rfl) (.cons (rdInt N).q (.cons (rdInt N).q (.cons (rdInt N).q (.cons (rdInt N).q (.cons (rdInt N).q (.cons (rdStr N).q (.cons (rdStr N).q (.cons (rdLit N).q (.cons (rdInts N).q (.cons (Rd.slice' (T := 23) (n := 200) (by kernel_rfl) ih).q (.cons (Rd.slice' (T := 23) (n := 200) (by kernel_rfl) ih).q (.nil))))))))))))) fun v h => by
    obtain ⟨vs, rfl, h⟩ := h
    obtain ⟨_, v1, rfl, ⟨a, rfl, ha⟩, h1⟩ := h.un
    obtain ⟨_, v2, rfl, ⟨b, rfl, hb⟩, h2⟩ := h1.un
    obtain ⟨_, v3, rfl, ⟨c, rfl, hc⟩, h3⟩ := h2.un
    obtain ⟨_, v4, rfl, ⟨d, rfl, hd⟩, h4⟩ := h3.un
    obtain ⟨_, v5, rfl, ⟨e, rfl, he⟩, h5⟩ := h4.un
    obtain ⟨_, v6, rfl, ⟨f, rfl, hf⟩, h6⟩ := h5.un
    obtain ⟨_, v7, rfl, ⟨g, rfl, hg⟩, h7⟩ := h6.un
    obtain ⟨_, v8, rfl, ⟨i, rfl, hi⟩, h8⟩ := h7.un
    obtain ⟨_, v9, rfl, ⟨j, rfl, hj⟩, h9⟩ := h8.un
    obtain ⟨_, v10, rfl, ⟨k, rfl, hk⟩, h10⟩ := h9.un
    obtain ⟨_, v11, rfl, ⟨l, rfl, hl⟩, h11⟩ := h10.un
    obtain rfl := h11.un0
    exact ⟨⟨a, b, c, d, e, f, g, i, j, k, l⟩, by rw [GStmt.av_eq]; rfl, .mk ⟨ha, hb, hc, hd, he, hf, hg, hi, hj⟩ hk.1 hk.2 hl.1 hl.2⟩
theorem rdCode : ∀ N : Nat, Rd enc Tryz.prog w N 25 GCode.av GCode.Ok := Rd.of_succ fun N =>
  Rd.of_q (RdQ.struct' (by kernel_rfl) (.cons (rdInt N).q (.cons (rdInt N).q (.cons (rdSyms N).q (.cons (Rd.slice' (T := 23) (n := 200) (by kernel_rfl) (rdStmt N)).q (.nil)))))) fun v h => by
    obtain ⟨vs, rfl, h⟩ := h
    obtain ⟨_, v1, rfl, ⟨a, rfl, ha⟩, h1⟩ := h.un
    obtain ⟨_, v2, rfl, ⟨b, rfl, hb⟩, h2⟩ := h1.un
    obtain ⟨_, v3, rfl, ⟨c, rfl, hc⟩, h3⟩ := h2.un
    obtain ⟨_, v4, rfl, ⟨d, rfl, hd⟩, h4⟩ := h3.un
    obtain rfl := h4.un0
    exact ⟨⟨a, b, c, d⟩, rfl, ha, hb, hc, hd⟩
theorem rdStart : ∀ N : Nat, Rd enc Tryz.prog w N 31 (fun x : List Bool × Int => .st [bools x.1, iav x.2]) (fun x => lenOk 1 (fun _ => True) x.1 ∧ iOk x.2) := Rd.of_succ fun N =>
  Rd.of_q (RdQ.struct' (by kernel_rfl) (.cons (rdBools N).q (.cons (rdInt N).q .nil))) fun v h => by
    obtain ⟨vs, rfl, h⟩ := h
    obtain ⟨_, v1, rfl, ⟨a, rfl, ha⟩, h1⟩ := h.un
    obtain ⟨_, v2, rfl, ⟨b, rfl, hb⟩, h2⟩ := h1.un
    obtain rfl := h2.un0
    exact ⟨⟨a, b⟩, rfl, ha, hb⟩
end
end Go.Proofs.YtdedkpfbfklgbaaGreat
