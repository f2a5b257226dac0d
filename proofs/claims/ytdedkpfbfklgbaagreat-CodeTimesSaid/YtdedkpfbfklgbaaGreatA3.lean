/- Contracts of the functions, part 3. -/
import Derived.Test.YtdedkpfbfklgbaaGreatA2
import Derived.Test.YtdedkpfbfklgbaaGreatA2
import Derived.Test.YtdedkpfbfklgbaaGreatS2
import Derived.Recover
namespace Go.Proofs.YtdedkpfbfklgbaaGreat
open Go.RowKit Go.SX
set_option maxRecDepth 100000
set_option maxHeartbeats 4000000
set_option linter.unusedVariables false
set_option linter.unusedSimpArgs false

section
variable {F R : Nat} {sig : ByteArray → Option Nat} {E : Env} {B : Blk} {m : MS}
theorem flag_get {fl : List Bool} {x : Int} (h : 0 ≤ x ∧ x < fl.length) : (fl.map bav)[x.toNat]? = some (.bool (flagAt fl x)) := by
  obtain ⟨b, hb⟩ := get_lt (show x.toNat < fl.length by omega)
  rw [map_get hb, flagAt, hb]; rfl
theorem reg_get {regs : List Int} {x : Int} (h : 0 ≤ x ∧ x < regs.length) : (regs.map iav)[x.toNat]? = some (.int .i64 (regAt regs x)) := by
  obtain ⟨b, hb⟩ := get_lt (show x.toNat < regs.length by omega)
  rw [map_get hb, regAt, hb]; rfl
theorem reg_bd {n : Int} {regs : List Int} {x : Int} (h : 0 ≤ x ∧ x < regs.length) (hr : ∀ r ∈ regs, 0 ≤ r ∧ r < n) : 0 ≤ regAt regs x ∧ regAt regs x < n := by
  obtain ⟨b, hb⟩ := get_lt (show x.toNat < regs.length by omega)
  rw [regAt, hb]
  exact hr b (List.mem_of_getElem? hb)
theorem rankM_bd {n : Int} {regs : List Int} (hn : 1 ≤ n) (hr : ∀ r ∈ regs, 0 ≤ r ∧ r < n) : ∀ (l : List Int) (r : Int) (i : Nat), (∀ x ∈ l, 0 ≤ x ∧ x < regs.length) → 0 ≤ r → r < n ^ i → 0 ≤ rankM n regs l r ∧ rankM n regs l r < n ^ (i + l.length)
  | [], r, i, _, h0, h1 => ⟨h0, by simpa [rankM] using h1⟩
  | x :: l, r, i, hl, h0, h1 => by
    have hb := reg_bd (hl x (by simp)) hr
    have h2 : 0 ≤ r * n := Int.mul_nonneg h0 (by omega)
    have h3 : r * n + n ≤ n ^ (i + 1) := by
      rw [Int.pow_succ]
      have := Int.mul_le_mul_of_nonneg_right (show r + 1 ≤ n ^ i by omega) (show 0 ≤ n by omega)
      rw [Int.add_mul] at this; omega
    have := rankM_bd hn hr l (r * n + regAt regs x) (i + 1) (fun y hy => hl y (by simp [hy])) (by omega) (by omega)
    rw [rankM]
    rw [show i + (x :: l).length = i + 1 + l.length by simp; omega]
    exact this
theorem mach_rank (hm : MFit F R sig E B m) (l : List Int) (hl : ∀ x ∈ l, 0 ≤ x ∧ x < R) (hp : E.n ^ l.length ≤ 4096) (hll : l.length ≤ 4611686018427387904) :
    Tri Tryz.prog 76 [.ref B.mb 0, ints l] (m.ah E B) (D (.int .i64 (rankM E.n m.regs l 0)) (m.ah E B)) := by
  have hn := hm.n
  have hrl := hm.rlen
  refine Tri.enter 30 Tryz.func76 rfl rfl rfl rfl fun Fr w0 => ?_
  repeat' (first
    | refine AW.seq ?_
    | (refine AW.region_at 0 ?_ <;> refine AL.e ?_ <;> refine AL.nil ?_)
    | (refine AW.region_at 1 ?_ <;> refine AL.e ?_ <;> refine AL.nil ?_)
    | (refine AW.region_at 2 ?_ <;> refine AL.e ?_ <;> refine AL.d AOp.ln ?_ <;> refine AL.e ?_ <;> refine AL.nil ?_)
    | refine AW.cond_true rfl ?_
    | refine AW.cond_false rfl ?_
    | refine AW.block ?_
    | refine AW.endblk ?_
    | refine AW.skip ?_
    | refine AW.exit rfl ?_
    | refine AW.label ?_
    | refine AW.j (fun hb => ?_) (fun hb => ?_))
  refine AW.prune [0, 5, 8, 9, 10] (AW.loop (fun k af h => ∃ (i : Nat) (r : Int), i ≤ l.length ∧ k = l.length - i ∧ af = [(0, .ref B.mb 0), (5, .int .i64 r), (8, ints l), (9, .int .i64 (l.map iav).length), (10, .int .i64 i)] ∧ h = m.ah E B ∧ 0 ≤ r ∧ r < E.n ^ i ∧ rankM E.n m.regs l 0 = rankM E.n m.regs (l.drop i) r) l.length ⟨0, 0, Nat.zero_le _, rfl, rfl, rfl, by omega, by simp, rfl⟩ ?_)
  rintro k af h ⟨i, r, hi, rfl, rfl, rfl, r0, r1, he⟩
  refine AW.seq ?_
  by_cases hlt : i < l.length
  · obtain ⟨x, hx⟩ := get_lt hlt
    have hx' : (l.map iav)[((i : Nat) : Int).toNat]? = some (iav x) := map_get hx
    have hxr := hl x (List.mem_of_getElem? hx)
    have hrg := reg_get (regs := m.regs) (x := x) (by omega)
    have hbd := reg_bd (n := E.n) (regs := m.regs) (x := x) (by omega) hm.regs
    rw [drop_cons hx, rankM] at he
    have h3 : r * E.n + E.n ≤ E.n ^ (i + 1) := by
      rw [Int.pow_succ]
      have := Int.mul_le_mul_of_nonneg_right (show r + 1 ≤ E.n ^ i by omega) (show 0 ≤ E.n by omega)
      rw [Int.add_mul] at this; omega
    have hle := pow_le_of hn.1 (show i + 1 ≤ l.length by omega)
    have hnn : 0 ≤ r * E.n := Int.mul_nonneg r0 (by omega)
    repeat' (first
      | refine AW.seq ?_
      | (refine AW.region_at 3 ?_ <;> (first | refine AL.e ?_ | refine AL.d (AOp.mul rfl rfl (by omega)) ?_) <;> refine AL.nil ?_)
      | (refine AW.region_at 4 ?_ <;> (first | refine AL.d (AOp.index_sl rfl rfl (by omega) hx' (by kernel_rfl) rfl) ?_ | refine AL.d (AOp.index_osl rfl rfl (by omega) (by omega) (by kernel_rfl)) ?_) <;> (first | refine AL.d (AOp.load_cell 2 rfl rfl hrg rfl (by kernel_rfl)) ?_ | refine AL.d AOp.la ?_ | refine AL.d (AOp.ll 0) ?_ | refine AL.d (AOp.lw 0) ?_) <;> refine AL.e ?_ <;> refine AL.nil ?_)
      | (refine AW.da 5 ?_ <;> refine AQ.e ?_ <;> refine AQ.e ?_ <;> refine AQ.e ?_ <;> (first | refine AQ.p rfl AOp.fa ?_ | refine AQ.p rfl (AOp.fr 0) ?_) <;> (first | refine AQ.p rfl (AOp.load_cell 2 rfl rfl hrg rfl (by kernel_rfl)) ?_ | refine AQ.p rfl AOp.la ?_ | refine AQ.p rfl (AOp.ll 0) ?_ | refine AQ.p rfl (AOp.lw 0) ?_) <;> refine AQ.p rfl (AOp.mul rfl rfl (by omega)) ?_ <;> refine AQ.e ?_ <;> refine AQ.e ?_ <;> (first | refine AQ.p rfl AOp.fa ?_ | refine AQ.p rfl (AOp.fr 2) ?_) <;> (first | refine AQ.p rfl (AOp.load_cell 2 rfl rfl hrg rfl (by kernel_rfl)) ?_ | refine AQ.p rfl AOp.la ?_ | refine AQ.p rfl (AOp.ll 0) ?_ | refine AQ.p rfl (AOp.lw 0) ?_) <;> refine AQ.e ?_ <;> (first | refine AQ.p rfl (AOp.index_sl rfl rfl (by omega) hx' (by kernel_rfl) rfl) ?_ | refine AQ.p rfl (AOp.index_osl rfl rfl (by omega) (by omega) (by kernel_rfl)) ?_) <;> (first | refine AQ.p rfl (AOp.load_cell 2 rfl rfl hrg rfl (by kernel_rfl)) ?_ | refine AQ.p rfl AOp.la ?_ | refine AQ.p rfl (AOp.ll 0) ?_ | refine AQ.p rfl (AOp.lw 0) ?_) <;> (first | refine AQ.p rfl (AOp.mul rfl rfl (by omega)) ?_ | refine AQ.p rfl AOp.ad ?_) <;> refine AQ.e ?_ <;> refine AQ.nil ?_)
      | (refine AW.region_at 6 ?_ <;> (first | refine AL.d (AOp.mul rfl rfl (by omega)) ?_ | refine AL.d AOp.ad ?_) <;> refine AL.e ?_ <;> refine AL.nil ?_)
      | refine AW.cond_true rfl ?_
      | refine AW.cond_false rfl ?_
      | refine AW.block ?_
      | refine AW.endblk ?_
      | refine AW.skip ?_
      | refine AW.exit rfl ?_
      | refine AW.label ?_
      | refine AW.j (fun hb => ?_) (fun hb => ?_))
    all_goals first
      | (exfalso; simp only [decide_eq_true_eq, decide_eq_false_iff_not, List.length_map] at *; omega)
      | exact AW.again_keep (l.length - (i + 1)) [0, 5, 8, 9, 10] (by omega) ⟨i + 1, _, hlt, rfl, rfl, rfl, by omega, by omega, he⟩
  · rw [List.drop_eq_nil_of_le (by omega), rankM] at he
    repeat' (first
      | refine AW.seq ?_
      | (refine AW.region_at 3 ?_ <;> refine AL.e ?_ <;> refine AL.nil ?_)
      | (refine AW.region_at 7 ?_ <;> refine AL.e ?_ <;> refine AL.e ?_ <;> refine AL.nil ?_)
      | refine AW.cond_true rfl ?_
      | refine AW.cond_false rfl ?_
      | refine AW.block ?_
      | refine AW.endblk ?_
      | refine AW.skip ?_
      | refine AW.exit rfl ?_
      | refine AW.label ?_
      | refine AW.j (fun hb => ?_) (fun hb => ?_))
    all_goals first
      | (exfalso; simp only [decide_eq_true_eq, decide_eq_false_iff_not, List.length_map] at *; omega)
      | exact AW.donev rfl ⟨by rw [he], rfl⟩
      | exact AW.retv rfl ⟨by rw [he], rfl⟩
theorem ah_setflag (E : Env) (B : Blk) (m : MS) (f : Int) (b : Bool) : (m.ah E B).set 1 (.row B.fb ((m.flags.map bav).set f.toNat (.bool b))) = (m.setF f b).ah E B := by
  have h : (m.flags.map bav).set f.toNat (.bool b) = (m.flags.set f.toNat b).map bav := by rw [List.map_set]; rfl
  have h2 : (m.flags.set f.toNat b).length = m.flags.length := by simp
  simp only [MS.ah, MS.setF, MS.box, List.set_cons_succ, List.set_cons_zero, h, h2]
  rfl
theorem use_k {s : GStmt} {k : Int} (h : s.Kind = k) : useOf s.Kind = useOf k := by rw [h]
theorem mach_1 (hm : MFit F R sig E B m) (s : GStmt) (hs : Fit F R sig s) (hk : s.Kind = 1) : Tri Tryz.prog 70 [.ref B.mb 0, s.st] (m.ah E B) (D (.tup []) ((prim E.n s m).ah E B)) := by
  have hf := hs.f (by rw [hk]; rfl)
  have hg := hs.g (by rw [hk]; rfl) (by omega)
  have hfl := hm.flen
  have g1 := flag_get (fl := m.flags) (x := s.G) (by omega)
  refine Tri.enter 20 Tryz.func70 rfl rfl rfl rfl fun Fr w0 => ?_
  repeat' (first
    | refine AW.seq ?_
    | (refine AW.region_at 0 ?_ <;> refine AL.d (AOp.box_ro rfl rfl) ?_ <;> refine AL.nil ?_)
    | (refine AW.draw_last_at 1 16 rfl (by kernel_rfl) (by kernel_rfl) (by kernel_rfl) (by kernel_rfl) ?_ <;> refine AQ.e ?_ <;> refine AQ.e ?_ <;> (first | refine AQ.p rfl AOp.fa ?_ | refine AQ.p rfl (AOp.fr 1) ?_) <;> (first | refine AQ.p rfl (AOp.load_cell 1 rfl rfl g1 rfl (by kernel_rfl)) ?_ | refine AQ.p rfl AOp.la ?_ | refine AQ.p rfl (AOp.ll 0) ?_ | refine AQ.p rfl (AOp.lw 0) ?_) <;> (first | refine AQ.p rfl AOp.fa ?_ | refine AQ.p rfl (AOp.fr 1) ?_) <;> (first | refine AQ.p rfl (AOp.load_cell 1 rfl rfl g1 rfl (by kernel_rfl)) ?_ | refine AQ.p rfl AOp.la ?_ | refine AQ.p rfl (AOp.ll 0) ?_ | refine AQ.p rfl (AOp.lw 0) ?_) <;> refine AQ.e ?_ <;> refine AQ.e ?_ <;> (first | refine AQ.p rfl AOp.fa ?_ | refine AQ.p rfl (AOp.fr 1) ?_) <;> (first | refine AQ.p rfl (AOp.load_cell 1 rfl rfl g1 rfl (by kernel_rfl)) ?_ | refine AQ.p rfl AOp.la ?_ | refine AQ.p rfl (AOp.ll 0) ?_ | refine AQ.p rfl (AOp.lw 0) ?_) <;> (first | refine AQ.p rfl AOp.fa ?_ | refine AQ.p rfl (AOp.fr 2) ?_) <;> (first | refine AQ.p rfl (AOp.load_cell 1 rfl rfl g1 rfl (by kernel_rfl)) ?_ | refine AQ.p rfl AOp.la ?_ | refine AQ.p rfl (AOp.ll 0) ?_ | refine AQ.p rfl (AOp.lw 0) ?_) <;> refine AQ.p rfl (AOp.index_osl rfl rfl (by omega) (by omega) (by kernel_rfl)) ?_ <;> (first | refine AQ.p rfl (AOp.load_cell 1 rfl rfl g1 rfl (by kernel_rfl)) ?_ | refine AQ.p rfl AOp.la ?_ | refine AQ.p rfl (AOp.ll 0) ?_ | refine AQ.p rfl (AOp.lw 0) ?_) <;> refine AQ.e ?_ <;> refine AQ.p rfl (AOp.index_osl rfl rfl (by omega) (by omega) (by kernel_rfl)) ?_ <;> refine AQ.nil ?_ <;> (first | (refine AL.store_cell 1 rfl rfl rfl (by simp; omega) rfl rfl (by kernel_rfl) ?_) | refine AL.sl 0 ?_) <;> refine AL.nil ?_)
    | refine AW.cond_true rfl ?_
    | refine AW.cond_false rfl ?_
    | refine AW.block ?_
    | refine AW.endblk ?_
    | refine AW.skip ?_
    | refine AW.exit rfl ?_
    | refine AW.label ?_
    | refine AW.j (fun hb => ?_) (fun hb => ?_))
  exact AW.donev rfl ⟨rfl, by rw [ah_setflag]; simp [prim, hk]⟩
theorem mach_2 (hm : MFit F R sig E B m) (s : GStmt) (hs : Fit F R sig s) (hk : s.Kind = 2) : Tri Tryz.prog 71 [.ref B.mb 0, s.st] (m.ah E B) (D (.tup []) ((prim E.n s m).ah E B)) := by
  have hf := hs.f (by rw [hk]; rfl)
  have hfl := hm.flen
  have hg := hs.g (by rw [hk]; rfl) (by omega)
  have g1 := flag_get (fl := m.flags) (x := s.G) (by omega)
  have g0 := flag_get (fl := m.flags) (x := s.F) (by omega)
  refine Tri.enter 29 Tryz.func71 rfl rfl rfl rfl fun Fr w0 => ?_
  repeat' (first
    | refine AW.seq ?_
    | (refine AW.region_at 0 ?_ <;> refine AL.d (AOp.box_ro rfl rfl) ?_ <;> refine AL.nil ?_)
    | (refine AW.draw_last_at 1 25 rfl (by kernel_rfl) (by kernel_rfl) (by kernel_rfl) (by kernel_rfl) ?_ <;> refine AQ.e ?_ <;> refine AQ.e ?_ <;> (first | refine AQ.p rfl AOp.fa ?_ | refine AQ.p rfl (AOp.fr 1) ?_) <;> (first | refine AQ.p rfl (AOp.load_cell 1 rfl rfl g0 rfl (by kernel_rfl)) ?_ | refine AQ.p rfl (AOp.load_cell 1 rfl rfl g1 rfl (by kernel_rfl)) ?_ | refine AQ.p rfl AOp.la ?_ | refine AQ.p rfl (AOp.ll 0) ?_ | refine AQ.p rfl (AOp.lw 0) ?_) <;> (first | refine AQ.p rfl AOp.fa ?_ | refine AQ.p rfl (AOp.fr 1) ?_) <;> (first | refine AQ.p rfl (AOp.load_cell 1 rfl rfl g0 rfl (by kernel_rfl)) ?_ | refine AQ.p rfl (AOp.load_cell 1 rfl rfl g1 rfl (by kernel_rfl)) ?_ | refine AQ.p rfl AOp.la ?_ | refine AQ.p rfl (AOp.ll 0) ?_ | refine AQ.p rfl (AOp.lw 0) ?_) <;> refine AQ.e ?_ <;> refine AQ.e ?_ <;> (first | refine AQ.p rfl AOp.fa ?_ | refine AQ.p rfl (AOp.fr 1) ?_) <;> (first | refine AQ.p rfl (AOp.load_cell 1 rfl rfl g0 rfl (by kernel_rfl)) ?_ | refine AQ.p rfl (AOp.load_cell 1 rfl rfl g1 rfl (by kernel_rfl)) ?_ | refine AQ.p rfl AOp.la ?_ | refine AQ.p rfl (AOp.ll 0) ?_ | refine AQ.p rfl (AOp.lw 0) ?_) <;> (first | refine AQ.p rfl AOp.fa ?_ | refine AQ.p rfl (AOp.fr 1) ?_) <;> (first | refine AQ.p rfl (AOp.load_cell 1 rfl rfl g0 rfl (by kernel_rfl)) ?_ | refine AQ.p rfl (AOp.load_cell 1 rfl rfl g1 rfl (by kernel_rfl)) ?_ | refine AQ.p rfl AOp.la ?_ | refine AQ.p rfl (AOp.ll 0) ?_ | refine AQ.p rfl (AOp.lw 0) ?_) <;> refine AQ.p rfl (AOp.index_osl rfl rfl (by omega) (by omega) (by kernel_rfl)) ?_ <;> (first | refine AQ.p rfl (AOp.load_cell 1 rfl rfl g0 rfl (by kernel_rfl)) ?_ | refine AQ.p rfl (AOp.load_cell 1 rfl rfl g1 rfl (by kernel_rfl)) ?_ | refine AQ.p rfl AOp.la ?_ | refine AQ.p rfl (AOp.ll 0) ?_ | refine AQ.p rfl (AOp.lw 0) ?_) <;> refine AQ.e ?_ <;> (first | refine AQ.ge ?_ | refine AQ.k ?_ | (refine AQ.y (fun hb => ?_) (fun hb => ?_) <;> first | refine AQ.ge ?_ | refine AQ.k ?_)) <;> (first | refine AQ.ge ?_ | refine AQ.k ?_) <;> (first | refine AQ.gp rfl AOp.fa ?_ | refine AQ.gp rfl (AOp.fr 1) ?_ | refine AQ.k ?_) <;> (first | refine AQ.gp rfl (AOp.load_cell 1 rfl rfl g0 rfl (by kernel_rfl)) ?_ | refine AQ.gp rfl (AOp.load_cell 1 rfl rfl g1 rfl (by kernel_rfl)) ?_ | refine AQ.gp rfl AOp.la ?_ | refine AQ.gp rfl (AOp.ll 0) ?_ | refine AQ.gp rfl (AOp.lw 0) ?_ | refine AQ.k ?_) <;> (first | refine AQ.gp rfl AOp.fa ?_ | refine AQ.gp rfl (AOp.fr 2) ?_ | refine AQ.k ?_) <;> (first | refine AQ.gp rfl (AOp.load_cell 1 rfl rfl g0 rfl (by kernel_rfl)) ?_ | refine AQ.gp rfl (AOp.load_cell 1 rfl rfl g1 rfl (by kernel_rfl)) ?_ | refine AQ.gp rfl AOp.la ?_ | refine AQ.gp rfl (AOp.ll 0) ?_ | refine AQ.gp rfl (AOp.lw 0) ?_ | refine AQ.k ?_) <;> (first | refine AQ.gp rfl (AOp.index_osl rfl rfl (by omega) (by omega) (by kernel_rfl)) ?_ | refine AQ.k ?_) <;> (first | refine AQ.gp rfl (AOp.load_cell 1 rfl rfl g0 rfl (by kernel_rfl)) ?_ | refine AQ.gp rfl (AOp.load_cell 1 rfl rfl g1 rfl (by kernel_rfl)) ?_ | refine AQ.gp rfl AOp.la ?_ | refine AQ.gp rfl (AOp.ll 0) ?_ | refine AQ.gp rfl (AOp.lw 0) ?_ | refine AQ.k ?_) <;> refine AQ.e ?_ <;> refine AQ.p rfl (AOp.index_osl rfl rfl (by omega) (by omega) (by kernel_rfl)) ?_ <;> refine AQ.nil ?_ <;> (first | (refine AL.store_cell 1 rfl rfl rfl (by simp; omega) rfl rfl (by kernel_rfl) ?_) | refine AL.sl 0 ?_) <;> refine AL.nil ?_)
    | refine AW.cond_true rfl ?_
    | refine AW.cond_false rfl ?_
    | refine AW.block ?_
    | refine AW.endblk ?_
    | refine AW.skip ?_
    | refine AW.exit rfl ?_
    | refine AW.label ?_
    | refine AW.j (fun hb => ?_) (fun hb => ?_))
  all_goals (refine AW.donev rfl ⟨rfl, ?_⟩; refine (ah_setflag E B m s.F _).trans ?_; simp [prim, hk, hb])
theorem mach_3 (hm : MFit F R sig E B m) (s : GStmt) (hs : Fit F R sig s) (hk : s.Kind = 3) : Tri Tryz.prog 72 [.ref B.mb 0, s.st] (m.ah E B) (D (.tup []) ((prim E.n s m).ah E B)) := by
  have hf := hs.f (by rw [hk]; rfl)
  have hfl := hm.flen
  have hg := hs.g (by rw [hk]; rfl) (by omega)
  have g1 := flag_get (fl := m.flags) (x := s.G) (by omega)
  have g0 := flag_get (fl := m.flags) (x := s.F) (by omega)
  refine Tri.enter 29 Tryz.func72 rfl rfl rfl rfl fun Fr w0 => ?_
  repeat' (first
    | refine AW.seq ?_
    | (refine AW.region_at 0 ?_ <;> refine AL.d (AOp.box_ro rfl rfl) ?_ <;> refine AL.nil ?_)
    | (refine AW.draw_last_at 1 25 rfl (by kernel_rfl) (by kernel_rfl) (by kernel_rfl) (by kernel_rfl) ?_ <;> refine AQ.e ?_ <;> refine AQ.e ?_ <;> (first | refine AQ.p rfl AOp.fa ?_ | refine AQ.p rfl (AOp.fr 1) ?_) <;> (first | refine AQ.p rfl (AOp.load_cell 1 rfl rfl g0 rfl (by kernel_rfl)) ?_ | refine AQ.p rfl (AOp.load_cell 1 rfl rfl g1 rfl (by kernel_rfl)) ?_ | refine AQ.p rfl AOp.la ?_ | refine AQ.p rfl (AOp.ll 0) ?_ | refine AQ.p rfl (AOp.lw 0) ?_) <;> (first | refine AQ.p rfl AOp.fa ?_ | refine AQ.p rfl (AOp.fr 1) ?_) <;> (first | refine AQ.p rfl (AOp.load_cell 1 rfl rfl g0 rfl (by kernel_rfl)) ?_ | refine AQ.p rfl (AOp.load_cell 1 rfl rfl g1 rfl (by kernel_rfl)) ?_ | refine AQ.p rfl AOp.la ?_ | refine AQ.p rfl (AOp.ll 0) ?_ | refine AQ.p rfl (AOp.lw 0) ?_) <;> refine AQ.e ?_ <;> refine AQ.e ?_ <;> (first | refine AQ.p rfl AOp.fa ?_ | refine AQ.p rfl (AOp.fr 1) ?_) <;> (first | refine AQ.p rfl (AOp.load_cell 1 rfl rfl g0 rfl (by kernel_rfl)) ?_ | refine AQ.p rfl (AOp.load_cell 1 rfl rfl g1 rfl (by kernel_rfl)) ?_ | refine AQ.p rfl AOp.la ?_ | refine AQ.p rfl (AOp.ll 0) ?_ | refine AQ.p rfl (AOp.lw 0) ?_) <;> (first | refine AQ.p rfl AOp.fa ?_ | refine AQ.p rfl (AOp.fr 1) ?_) <;> (first | refine AQ.p rfl (AOp.load_cell 1 rfl rfl g0 rfl (by kernel_rfl)) ?_ | refine AQ.p rfl (AOp.load_cell 1 rfl rfl g1 rfl (by kernel_rfl)) ?_ | refine AQ.p rfl AOp.la ?_ | refine AQ.p rfl (AOp.ll 0) ?_ | refine AQ.p rfl (AOp.lw 0) ?_) <;> refine AQ.p rfl (AOp.index_osl rfl rfl (by omega) (by omega) (by kernel_rfl)) ?_ <;> (first | refine AQ.p rfl (AOp.load_cell 1 rfl rfl g0 rfl (by kernel_rfl)) ?_ | refine AQ.p rfl (AOp.load_cell 1 rfl rfl g1 rfl (by kernel_rfl)) ?_ | refine AQ.p rfl AOp.la ?_ | refine AQ.p rfl (AOp.ll 0) ?_ | refine AQ.p rfl (AOp.lw 0) ?_) <;> refine AQ.e ?_ <;> (first | refine AQ.ge ?_ | refine AQ.k ?_ | (refine AQ.y (fun hb => ?_) (fun hb => ?_) <;> first | refine AQ.ge ?_ | refine AQ.k ?_)) <;> (first | refine AQ.ge ?_ | refine AQ.k ?_) <;> (first | refine AQ.gp rfl AOp.fa ?_ | refine AQ.gp rfl (AOp.fr 1) ?_ | refine AQ.k ?_) <;> (first | refine AQ.gp rfl (AOp.load_cell 1 rfl rfl g0 rfl (by kernel_rfl)) ?_ | refine AQ.gp rfl (AOp.load_cell 1 rfl rfl g1 rfl (by kernel_rfl)) ?_ | refine AQ.gp rfl AOp.la ?_ | refine AQ.gp rfl (AOp.ll 0) ?_ | refine AQ.gp rfl (AOp.lw 0) ?_ | refine AQ.k ?_) <;> (first | refine AQ.gp rfl AOp.fa ?_ | refine AQ.gp rfl (AOp.fr 2) ?_ | refine AQ.k ?_) <;> (first | refine AQ.gp rfl (AOp.load_cell 1 rfl rfl g0 rfl (by kernel_rfl)) ?_ | refine AQ.gp rfl (AOp.load_cell 1 rfl rfl g1 rfl (by kernel_rfl)) ?_ | refine AQ.gp rfl AOp.la ?_ | refine AQ.gp rfl (AOp.ll 0) ?_ | refine AQ.gp rfl (AOp.lw 0) ?_ | refine AQ.k ?_) <;> (first | refine AQ.gp rfl (AOp.index_osl rfl rfl (by omega) (by omega) (by kernel_rfl)) ?_ | refine AQ.k ?_) <;> (first | refine AQ.gp rfl (AOp.load_cell 1 rfl rfl g0 rfl (by kernel_rfl)) ?_ | refine AQ.gp rfl (AOp.load_cell 1 rfl rfl g1 rfl (by kernel_rfl)) ?_ | refine AQ.gp rfl AOp.la ?_ | refine AQ.gp rfl (AOp.ll 0) ?_ | refine AQ.gp rfl (AOp.lw 0) ?_ | refine AQ.k ?_) <;> refine AQ.e ?_ <;> refine AQ.p rfl (AOp.index_osl rfl rfl (by omega) (by omega) (by kernel_rfl)) ?_ <;> refine AQ.nil ?_ <;> (first | (refine AL.store_cell 1 rfl rfl rfl (by simp; omega) rfl rfl (by kernel_rfl) ?_) | refine AL.sl 0 ?_) <;> refine AL.nil ?_)
    | refine AW.cond_true rfl ?_
    | refine AW.cond_false rfl ?_
    | refine AW.block ?_
    | refine AW.endblk ?_
    | refine AW.skip ?_
    | refine AW.exit rfl ?_
    | refine AW.label ?_
    | refine AW.j (fun hb => ?_) (fun hb => ?_))
  all_goals (refine AW.donev rfl ⟨rfl, ?_⟩; refine (ah_setflag E B m s.F _).trans ?_; simp [prim, hk, hb])
theorem mach_4 (hm : MFit F R sig E B m) (s : GStmt) (hs : Fit F R sig s) (hk : s.Kind = 4) : Tri Tryz.prog 73 [.ref B.mb 0, s.st] (m.ah E B) (D (.tup []) ((prim E.n s m).ah E B)) := by
  have hf := hs.f (by rw [hk]; rfl)
  have hfl := hm.flen
  refine Tri.enter 14 Tryz.func73 rfl rfl rfl rfl fun Fr w0 => ?_
  repeat' (first
    | refine AW.seq ?_
    | (refine AW.region_at 0 ?_ <;> refine AL.d (AOp.box_ro rfl rfl) ?_ <;> refine AL.nil ?_)
    | (refine AW.draw_last_at 1 10 rfl (by kernel_rfl) (by kernel_rfl) (by kernel_rfl) (by kernel_rfl) ?_ <;> refine AQ.e ?_ <;> refine AQ.e ?_ <;> (first | refine AQ.p rfl AOp.fa ?_ | refine AQ.p rfl (AOp.fr 1) ?_) <;> (first | refine AQ.p rfl AOp.la ?_ | refine AQ.p rfl (AOp.ll 0) ?_ | refine AQ.p rfl (AOp.lw 0) ?_) <;> (first | refine AQ.p rfl AOp.fa ?_ | refine AQ.p rfl (AOp.fr 1) ?_) <;> (first | refine AQ.p rfl AOp.la ?_ | refine AQ.p rfl (AOp.ll 0) ?_ | refine AQ.p rfl (AOp.lw 0) ?_) <;> (first | refine AQ.p rfl AOp.fa ?_ | refine AQ.p rfl (AOp.fr 2) ?_) <;> (first | refine AQ.p rfl AOp.la ?_ | refine AQ.p rfl (AOp.ll 0) ?_ | refine AQ.p rfl (AOp.lw 0) ?_) <;> refine AQ.e ?_ <;> refine AQ.p rfl (AOp.index_osl rfl rfl (by omega) (by omega) (by kernel_rfl)) ?_ <;> refine AQ.nil ?_ <;> (first | (refine AL.store_cell 1 rfl rfl rfl (by simp; omega) rfl rfl (by kernel_rfl) ?_) | refine AL.sl 0 ?_) <;> refine AL.nil ?_)
    | refine AW.cond_true rfl ?_
    | refine AW.cond_false rfl ?_
    | refine AW.block ?_
    | refine AW.endblk ?_
    | refine AW.skip ?_
    | refine AW.exit rfl ?_
    | refine AW.label ?_
    | refine AW.j (fun hb => ?_) (fun hb => ?_))
  exact AW.donev rfl ⟨rfl, by rw [ah_setflag]; simp [prim, hk, ieq]⟩
theorem mach_5 (hm : MFit F R sig E B m) (s : GStmt) (hs : Fit F R sig s) (hk : s.Kind = 5) : Tri Tryz.prog 74 [.ref B.mb 0, s.st] (m.ah E B) (D (.tup []) ((prim E.n s m).ah E B)) := by
  have hf := hs.f (by rw [hk]; rfl)
  have hfl := hm.flen
  have hg := hs.g (by rw [hk]; rfl) (by omega)
  have g1 := flag_get (fl := m.flags) (x := s.G) (by omega)
  refine Tri.enter 19 Tryz.func74 rfl rfl rfl rfl fun Fr w0 => ?_
  repeat' (first
    | refine AW.seq ?_
    | (refine AW.region_at 0 ?_ <;> refine AL.d (AOp.box_ro rfl rfl) ?_ <;> refine AL.nil ?_)
    | (refine AW.draw_last_at 1 15 rfl (by kernel_rfl) (by kernel_rfl) (by kernel_rfl) (by kernel_rfl) ?_ <;> refine AQ.e ?_ <;> refine AQ.e ?_ <;> (first | refine AQ.p rfl AOp.fa ?_ | refine AQ.p rfl (AOp.fr 1) ?_) <;> (first | refine AQ.p rfl (AOp.load_cell 1 rfl rfl g1 rfl (by kernel_rfl)) ?_ | refine AQ.p rfl AOp.la ?_ | refine AQ.p rfl (AOp.ll 0) ?_ | refine AQ.p rfl (AOp.lw 0) ?_) <;> (first | refine AQ.p rfl AOp.fa ?_ | refine AQ.p rfl (AOp.fr 1) ?_) <;> (first | refine AQ.p rfl (AOp.load_cell 1 rfl rfl g1 rfl (by kernel_rfl)) ?_ | refine AQ.p rfl AOp.la ?_ | refine AQ.p rfl (AOp.ll 0) ?_ | refine AQ.p rfl (AOp.lw 0) ?_) <;> refine AQ.e ?_ <;> refine AQ.e ?_ <;> (first | refine AQ.p rfl AOp.fa ?_ | refine AQ.p rfl (AOp.fr 1) ?_) <;> (first | refine AQ.p rfl (AOp.load_cell 1 rfl rfl g1 rfl (by kernel_rfl)) ?_ | refine AQ.p rfl AOp.la ?_ | refine AQ.p rfl (AOp.ll 0) ?_ | refine AQ.p rfl (AOp.lw 0) ?_) <;> (first | refine AQ.p rfl AOp.fa ?_ | refine AQ.p rfl (AOp.fr 2) ?_) <;> (first | refine AQ.p rfl (AOp.load_cell 1 rfl rfl g1 rfl (by kernel_rfl)) ?_ | refine AQ.p rfl AOp.la ?_ | refine AQ.p rfl (AOp.ll 0) ?_ | refine AQ.p rfl (AOp.lw 0) ?_) <;> refine AQ.p rfl (AOp.index_osl rfl rfl (by omega) (by omega) (by kernel_rfl)) ?_ <;> (first | refine AQ.p rfl (AOp.load_cell 1 rfl rfl g1 rfl (by kernel_rfl)) ?_ | refine AQ.p rfl AOp.la ?_ | refine AQ.p rfl (AOp.ll 0) ?_ | refine AQ.p rfl (AOp.lw 0) ?_) <;> refine AQ.p rfl (AOp.index_osl rfl rfl (by omega) (by omega) (by kernel_rfl)) ?_ <;> refine AQ.nil ?_ <;> (first | (refine AL.store_cell 1 rfl rfl rfl (by simp; omega) rfl rfl (by kernel_rfl) ?_) | refine AL.sl 0 ?_) <;> refine AL.nil ?_)
    | refine AW.cond_true rfl ?_
    | refine AW.cond_false rfl ?_
    | refine AW.block ?_
    | refine AW.endblk ?_
    | refine AW.skip ?_
    | refine AW.exit rfl ?_
    | refine AW.label ?_
    | refine AW.j (fun hb => ?_) (fun hb => ?_))
  exact AW.donev rfl ⟨rfl, by rw [ah_setflag]; simp [prim, hk]⟩
theorem mach_11 (hm : MFit F R sig E B m) (s : GStmt) (hs : Fit F R sig s) (hk : s.Kind = 11) : Tri Tryz.prog 82 [.ref B.mb 0, s.st] (m.ah E B) (D (.tup []) ((prim E.n s m).ah E B)) := by
  obtain ⟨a, ha⟩ := hs.name (by rw [hk]; rfl)
  obtain ⟨hin, hlen, hle⟩ := hm.sig _ _ ha
  obtain ⟨j, hj, hrow⟩ := row_at E B m hin
  have hlk := look_rel B m hin
  have hlk2 : ((m.rels s.Name).map bav).length = (m.rels s.Name).length := by simp
  refine Tri.enter 11 Tryz.func82 rfl rfl rfl rfl fun Fr w0 => ?_
  repeat' (first
    | refine AW.seq ?_
    | (refine AW.region_at 0 ?_ <;> refine AL.d (AOp.box_ro rfl rfl) ?_ <;> refine AL.nil ?_)
    | (refine AW.draw_last_at 1 7 rfl (by kernel_rfl) (by kernel_rfl) (by kernel_rfl) (by kernel_rfl) ?_ <;> refine AQ.e ?_ <;> refine AQ.e ?_ <;> (first | refine AQ.p rfl AOp.fa ?_ | refine AQ.p rfl (AOp.fr 3) ?_) <;> (first | refine AQ.p rfl AOp.la ?_ | refine AQ.p rfl (AOp.ll 0) ?_ | refine AQ.p rfl (AOp.lw 0) ?_) <;> (first | refine AQ.p rfl AOp.fa ?_ | refine AQ.p rfl (AOp.fr 5) ?_) <;> (first | refine AQ.p rfl AOp.la ?_ | refine AQ.p rfl (AOp.ll 0) ?_ | refine AQ.p rfl (AOp.lw 0) ?_) <;> refine AQ.p rfl (AOp.lookS_hit (g := oslv) (ok := false) 3 29 hlk rfl rfl rfl (by kernel_rfl)) ?_ <;> refine AQ.nil ?_ <;> refine AL.d0 (AOp.clear (z := .bool false) (c0 := .bool false) (e := 4) (bytes := 1) rfl hrow (by simp) (by kernel_rfl) rfl rfl) ?_ <;> refine AL.nil ?_)
    | refine AW.cond_true rfl ?_
    | refine AW.cond_false rfl ?_
    | refine AW.block ?_
    | refine AW.endblk ?_
    | refine AW.skip ?_
    | refine AW.exit rfl ?_
    | refine AW.label ?_
    | refine AW.j (fun hb => ?_) (fun hb => ?_))
  refine AW.donev rfl ⟨rfl, ?_⟩
  have := ah_setrow E B m hm.nodup hj (List.replicate (m.rels s.Name).length false) (by simp)
  simp only [List.map_replicate] at this
  rw [show ((m.rels s.Name).map bav).drop (m.rels s.Name).length = [] by simp, List.append_nil]
  refine this.trans ?_
  simp [prim, hk]
theorem mach_6 (hm : MFit F R sig E B m) (s : GStmt) (hs : Fit F R sig s) (hk : s.Kind = 6) (hl : s.Regs.length ≤ 4611686018427387904) : Tri Tryz.prog 75 [.ref B.mb 0, s.st] (m.ah E B) (D (.tup []) ((prim E.n s m).ah E B)) := by
  have hf := hs.f (by rw [hk]; rfl)
  have hfl := hm.flen
  have g0 := flag_get (fl := m.flags) (x := s.F) (by omega)
  have ha := hs.store (by rw [hk]; rfl)
  obtain ⟨hin, hlen, hle⟩ := hm.sig _ _ ha
  obtain ⟨j, hj, hrow⟩ := row_at E B m hin
  have hlk := look_rel B m hin
  have hrk := mach_rank hm s.Regs hs.regs hle hl
  have hbd := rankM_bd hm.n.1 hm.regs s.Regs 0 0 (by rw [hm.rlen]; exact hs.regs) (by omega) (by simp)
  rw [Nat.zero_add] at hbd
  refine Tri.enter 24 Tryz.func75 rfl rfl rfl rfl fun Fr w0 => ?_
  repeat' (first
    | refine AW.seq ?_
    | (refine AW.region_at 0 ?_ <;> refine AL.d (AOp.box_ro rfl rfl) ?_ <;> refine AL.nil ?_)
    | (refine AW.draw_last_at 1 20 rfl (by kernel_rfl) (by kernel_rfl) (by kernel_rfl) (by kernel_rfl) ?_ <;> refine AQ.e ?_ <;> refine AQ.e ?_ <;> (first | refine AQ.p rfl AOp.fa ?_ | refine AQ.p rfl (AOp.fr 3) ?_) <;> (first | refine AQ.p rfl (AOp.load_cell 1 rfl rfl g0 rfl (by kernel_rfl)) ?_ | refine AQ.p rfl AOp.la ?_ | refine AQ.p rfl (AOp.ll 0) ?_ | refine AQ.p rfl (AOp.lw 0) ?_) <;> (first | refine AQ.p rfl AOp.fa ?_ | refine AQ.p rfl (AOp.fr 5) ?_) <;> (first | refine AQ.p rfl (AOp.load_cell 1 rfl rfl g0 rfl (by kernel_rfl)) ?_ | refine AQ.p rfl AOp.la ?_ | refine AQ.p rfl (AOp.ll 0) ?_ | refine AQ.p rfl (AOp.lw 0) ?_) <;> refine AQ.p rfl (AOp.lookS_hit (g := oslv) (ok := false) 3 29 hlk rfl rfl rfl (by kernel_rfl)) ?_ <;> refine AQ.e ?_ <;> (first | refine AQ.p rfl AOp.fa ?_ | refine AQ.p rfl (AOp.fr 11) ?_) <;> (first | refine AQ.p rfl (AOp.load_cell 1 rfl rfl g0 rfl (by kernel_rfl)) ?_ | refine AQ.p rfl AOp.la ?_ | refine AQ.p rfl (AOp.ll 0) ?_ | refine AQ.p rfl (AOp.lw 0) ?_) <;> refine AQ.p rfl (AOp.call rfl rfl hrk) ?_ <;> refine AQ.e ?_ <;> refine AQ.e ?_ <;> (first | refine AQ.p rfl AOp.fa ?_ | refine AQ.p rfl (AOp.fr 1) ?_) <;> (first | refine AQ.p rfl (AOp.load_cell 1 rfl rfl g0 rfl (by kernel_rfl)) ?_ | refine AQ.p rfl AOp.la ?_ | refine AQ.p rfl (AOp.ll 0) ?_ | refine AQ.p rfl (AOp.lw 0) ?_) <;> (first | refine AQ.p rfl AOp.fa ?_ | refine AQ.p rfl (AOp.fr 1) ?_) <;> (first | refine AQ.p rfl (AOp.load_cell 1 rfl rfl g0 rfl (by kernel_rfl)) ?_ | refine AQ.p rfl AOp.la ?_ | refine AQ.p rfl (AOp.ll 0) ?_ | refine AQ.p rfl (AOp.lw 0) ?_) <;> refine AQ.p rfl (AOp.index_osl rfl rfl (by omega) (by omega) (by kernel_rfl)) ?_ <;> (first | refine AQ.p rfl (AOp.load_cell 1 rfl rfl g0 rfl (by kernel_rfl)) ?_ | refine AQ.p rfl AOp.la ?_ | refine AQ.p rfl (AOp.ll 0) ?_ | refine AQ.p rfl (AOp.lw 0) ?_) <;> refine AQ.p rfl (AOp.index_osl rfl rfl (by omega) (by omega) (by kernel_rfl)) ?_ <;> refine AQ.nil ?_ <;> (first | (refine AL.store_cell (j + 5) rfl rfl hrow (by simp; omega) rfl rfl (by kernel_rfl) ?_) | refine AL.sl 0 ?_) <;> refine AL.nil ?_)
    | refine AW.cond_true rfl ?_
    | refine AW.cond_false rfl ?_
    | refine AW.block ?_
    | refine AW.endblk ?_
    | refine AW.skip ?_
    | refine AW.exit rfl ?_
    | refine AW.label ?_
    | refine AW.j (fun hb => ?_) (fun hb => ?_))
  refine AW.donev rfl ⟨rfl, ?_⟩
  have := ah_setrow E B m hm.nodup hj ((m.rels s.Name).set (rankM E.n m.regs s.Regs 0).toNat (flagAt m.flags s.F)) (by simp)
  rw [List.map_set] at this
  refine this.trans ?_
  simp [prim, hk]
theorem mach_holds (hm : MFit F R sig E B m) (l : GLit) (hl : l.At.length ≤ 4611686018427387904) (hr : ∀ x ∈ l.At, 0 ≤ x ∧ x < R) (hs : if l.Kind = 1 ∨ l.Kind = 2 then l.At.length = 2 else l.Kind = 0 ∧ sig l.Name = some l.At.length) :
    Tri Tryz.prog 69 [.ref B.mb 0, l.av] (m.ah E B) (D (.bool (holdsM E.n m l)) (m.ah E B)) := by
  have hrl := hm.rlen
  by_cases hk : l.Kind = 1 ∨ l.Kind = 2
  · rw [if_pos hk] at hs
    obtain ⟨x, y, hxy⟩ : ∃ x y, l.At = [x, y] := by
      match h : l.At, hs with
      | [x, y], _ => exact ⟨x, y, rfl⟩
    rw [hxy] at hr
    have hx := hr x (by simp)
    have hy := hr y (by simp)
    have g0 := reg_get (regs := m.regs) (x := x) (by omega)
    have g1 := reg_get (regs := m.regs) (x := y) (by omega)
    have e0 : (l.At.map iav)[(0 : Int).toNat]? = some (iav x) := by rw [hxy]; rfl
    have e1 : (l.At.map iav)[(1 : Int).toNat]? = some (iav y) := by rw [hxy]; rfl
    refine Tri.enter 71 Tryz.func69 rfl rfl rfl rfl fun Fr w0 => ?_
    repeat' (first
      | refine AW.seq ?_
      | (refine AW.region_at 0 ?_ <;> (first | refine AL.d (AOp.box_ro (v := .st [.int .i64 l.Kind, .bool l.Neg, .str l.Name, ints l.At]) rfl rfl) ?_ | refine AL.d (AOp.box_ro rfl rfl) ?_) <;> refine AL.e ?_ <;> refine AL.nil ?_)
      | (refine AW.region_at 1 ?_ <;> refine AL.e ?_ <;> refine AL.nil ?_)
      | (refine AW.region_at 2 ?_ <;> (first | refine AL.d AOp.fa ?_ | refine AL.d (AOp.fr 0) ?_) <;> (first | refine AL.d (AOp.load_cell 2 rfl rfl g0 rfl (by kernel_rfl)) ?_ | refine AL.d (AOp.load_cell 2 rfl rfl g1 rfl (by kernel_rfl)) ?_ | refine AL.d AOp.la ?_ | refine AL.d (AOp.ll 0) ?_ | refine AL.d (AOp.lw 0) ?_) <;> refine AL.nil ?_)
      | (refine AW.region_at 4 ?_ <;> refine AL.e ?_ <;> refine AL.e ?_ <;> refine AL.nil ?_)
      | (refine AW.da 5 ?_ <;> refine AQ.e ?_ <;> refine AQ.e ?_ <;> (first | refine AQ.p rfl AOp.fa ?_ | refine AQ.p rfl (AOp.fr 3) ?_) <;> (first | refine AQ.p rfl (AOp.load_cell 2 rfl rfl g0 rfl (by kernel_rfl)) ?_ | refine AQ.p rfl (AOp.load_cell 2 rfl rfl g1 rfl (by kernel_rfl)) ?_ | refine AQ.p rfl AOp.la ?_ | refine AQ.p rfl (AOp.ll 0) ?_ | refine AQ.p rfl (AOp.lw 0) ?_) <;> (first | refine AQ.p rfl AOp.fa ?_ | refine AQ.p rfl (AOp.fr 2) ?_) <;> (first | refine AQ.p rfl (AOp.load_cell 2 rfl rfl g0 rfl (by kernel_rfl)) ?_ | refine AQ.p rfl (AOp.load_cell 2 rfl rfl g1 rfl (by kernel_rfl)) ?_ | refine AQ.p rfl AOp.la ?_ | refine AQ.p rfl (AOp.ll 0) ?_ | refine AQ.p rfl (AOp.lw 0) ?_) <;> fail <;> refine AQ.e ?_ <;> (first | refine AQ.p rfl AOp.fa ?_ | refine AQ.p rfl (AOp.fr 3) ?_) <;> (first | refine AQ.p rfl (AOp.load_cell 2 rfl rfl g0 rfl (by kernel_rfl)) ?_ | refine AQ.p rfl (AOp.load_cell 2 rfl rfl g1 rfl (by kernel_rfl)) ?_ | refine AQ.p rfl AOp.la ?_ | refine AQ.p rfl (AOp.ll 0) ?_ | refine AQ.p rfl (AOp.lw 0) ?_) <;> fail <;> (first | refine AQ.p rfl (AOp.index_sl rfl rfl (by omega) e0 (by kernel_rfl) rfl) ?_ | refine AQ.p rfl (AOp.index_sl rfl rfl (by omega) e1 (by kernel_rfl) rfl) ?_ | refine AQ.p rfl (AOp.index_osl rfl rfl (by omega) (by omega) (by kernel_rfl)) ?_) <;> (first | refine AQ.p rfl (AOp.load_cell 2 rfl rfl g0 rfl (by kernel_rfl)) ?_ | refine AQ.p rfl (AOp.load_cell 2 rfl rfl g1 rfl (by kernel_rfl)) ?_ | refine AQ.p rfl AOp.la ?_ | refine AQ.p rfl (AOp.ll 0) ?_ | refine AQ.p rfl (AOp.lw 0) ?_) <;> refine AQ.e ?_ <;> refine AQ.nil ?_)
      | (refine AW.region_at 6 ?_ <;> refine AL.e ?_ <;> refine AL.e ?_ <;> refine AL.nil ?_)
      | (refine AW.da 7 ?_ <;> refine AQ.e ?_ <;> refine AQ.e ?_ <;> (first | refine AQ.p rfl AOp.fa ?_ | refine AQ.p rfl (AOp.fr 2) ?_) <;> (first | refine AQ.p rfl (AOp.load_cell 2 rfl rfl g0 rfl (by kernel_rfl)) ?_ | refine AQ.p rfl (AOp.load_cell 2 rfl rfl g1 rfl (by kernel_rfl)) ?_ | refine AQ.p rfl AOp.la ?_ | refine AQ.p rfl (AOp.ll 0) ?_ | refine AQ.p rfl (AOp.lw 0) ?_) <;> (first | refine AQ.p rfl AOp.fa ?_ | refine AQ.p rfl (AOp.fr 3) ?_) <;> (first | refine AQ.p rfl (AOp.load_cell 2 rfl rfl g0 rfl (by kernel_rfl)) ?_ | refine AQ.p rfl (AOp.load_cell 2 rfl rfl g1 rfl (by kernel_rfl)) ?_ | refine AQ.p rfl AOp.la ?_ | refine AQ.p rfl (AOp.ll 0) ?_ | refine AQ.p rfl (AOp.lw 0) ?_) <;> (first | refine AQ.p rfl (AOp.index_sl rfl rfl (by omega) e0 (by kernel_rfl) rfl) ?_ | refine AQ.p rfl (AOp.index_sl rfl rfl (by omega) e1 (by kernel_rfl) rfl) ?_ | refine AQ.p rfl (AOp.index_osl rfl rfl (by omega) (by omega) (by kernel_rfl)) ?_) <;> (first | refine AQ.p rfl (AOp.load_cell 2 rfl rfl g0 rfl (by kernel_rfl)) ?_ | refine AQ.p rfl (AOp.load_cell 2 rfl rfl g1 rfl (by kernel_rfl)) ?_ | refine AQ.p rfl AOp.la ?_ | refine AQ.p rfl (AOp.ll 0) ?_ | refine AQ.p rfl (AOp.lw 0) ?_) <;> (first | refine AQ.p rfl (AOp.index_sl rfl rfl (by omega) e0 (by kernel_rfl) rfl) ?_ | refine AQ.p rfl (AOp.index_sl rfl rfl (by omega) e1 (by kernel_rfl) rfl) ?_ | refine AQ.p rfl (AOp.index_osl rfl rfl (by omega) (by omega) (by kernel_rfl)) ?_) <;> (first | refine AQ.p rfl (AOp.load_cell 2 rfl rfl g0 rfl (by kernel_rfl)) ?_ | refine AQ.p rfl (AOp.load_cell 2 rfl rfl g1 rfl (by kernel_rfl)) ?_ | refine AQ.p rfl AOp.la ?_ | refine AQ.p rfl (AOp.ll 0) ?_ | refine AQ.p rfl (AOp.lw 0) ?_) <;> refine AQ.e ?_ <;> refine AQ.e ?_ <;> (first | refine AQ.p rfl AOp.fa ?_ | refine AQ.p rfl (AOp.fr 2) ?_) <;> (first | refine AQ.p rfl (AOp.load_cell 2 rfl rfl g0 rfl (by kernel_rfl)) ?_ | refine AQ.p rfl (AOp.load_cell 2 rfl rfl g1 rfl (by kernel_rfl)) ?_ | refine AQ.p rfl AOp.la ?_ | refine AQ.p rfl (AOp.ll 0) ?_ | refine AQ.p rfl (AOp.lw 0) ?_) <;> (first | refine AQ.p rfl AOp.fa ?_ | refine AQ.p rfl (AOp.fr 3) ?_) <;> (first | refine AQ.p rfl (AOp.load_cell 2 rfl rfl g0 rfl (by kernel_rfl)) ?_ | refine AQ.p rfl (AOp.load_cell 2 rfl rfl g1 rfl (by kernel_rfl)) ?_ | refine AQ.p rfl AOp.la ?_ | refine AQ.p rfl (AOp.ll 0) ?_ | refine AQ.p rfl (AOp.lw 0) ?_) <;> (first | refine AQ.p rfl (AOp.index_sl rfl rfl (by omega) e0 (by kernel_rfl) rfl) ?_ | refine AQ.p rfl (AOp.index_sl rfl rfl (by omega) e1 (by kernel_rfl) rfl) ?_ | refine AQ.p rfl (AOp.index_osl rfl rfl (by omega) (by omega) (by kernel_rfl)) ?_) <;> (first | refine AQ.p rfl (AOp.load_cell 2 rfl rfl g0 rfl (by kernel_rfl)) ?_ | refine AQ.p rfl (AOp.load_cell 2 rfl rfl g1 rfl (by kernel_rfl)) ?_ | refine AQ.p rfl AOp.la ?_ | refine AQ.p rfl (AOp.ll 0) ?_ | refine AQ.p rfl (AOp.lw 0) ?_) <;> (first | refine AQ.p rfl (AOp.index_sl rfl rfl (by omega) e0 (by kernel_rfl) rfl) ?_ | refine AQ.p rfl (AOp.index_sl rfl rfl (by omega) e1 (by kernel_rfl) rfl) ?_ | refine AQ.p rfl (AOp.index_osl rfl rfl (by omega) (by omega) (by kernel_rfl)) ?_) <;> (first | refine AQ.p rfl (AOp.load_cell 2 rfl rfl g0 rfl (by kernel_rfl)) ?_ | refine AQ.p rfl (AOp.load_cell 2 rfl rfl g1 rfl (by kernel_rfl)) ?_ | refine AQ.p rfl AOp.la ?_ | refine AQ.p rfl (AOp.ll 0) ?_ | refine AQ.p rfl (AOp.lw 0) ?_) <;> refine AQ.e ?_ <;> refine AQ.e ?_ <;> refine AQ.nil ?_)
      | (refine AW.da 3 ?_ <;> refine AQ.e ?_ <;> refine AQ.e ?_ <;> (first | refine AQ.p rfl AOp.fa ?_ | refine AQ.p rfl (AOp.fr 2) ?_) <;> (first | refine AQ.p rfl (AOp.load_cell 2 rfl rfl g0 rfl (by kernel_rfl)) ?_ | refine AQ.p rfl (AOp.load_cell 2 rfl rfl g1 rfl (by kernel_rfl)) ?_ | refine AQ.p rfl AOp.la ?_ | refine AQ.p rfl (AOp.ll 0) ?_ | refine AQ.p rfl (AOp.lw 0) ?_) <;> (first | refine AQ.p rfl AOp.fa ?_ | refine AQ.p rfl (AOp.fr 3) ?_) <;> (first | refine AQ.p rfl (AOp.load_cell 2 rfl rfl g0 rfl (by kernel_rfl)) ?_ | refine AQ.p rfl (AOp.load_cell 2 rfl rfl g1 rfl (by kernel_rfl)) ?_ | refine AQ.p rfl AOp.la ?_ | refine AQ.p rfl (AOp.ll 0) ?_ | refine AQ.p rfl (AOp.lw 0) ?_) <;> (first | refine AQ.p rfl (AOp.index_sl rfl rfl (by omega) e0 (by kernel_rfl) rfl) ?_ | refine AQ.p rfl (AOp.index_sl rfl rfl (by omega) e1 (by kernel_rfl) rfl) ?_ | refine AQ.p rfl (AOp.index_osl rfl rfl (by omega) (by omega) (by kernel_rfl)) ?_) <;> (first | refine AQ.p rfl (AOp.load_cell 2 rfl rfl g0 rfl (by kernel_rfl)) ?_ | refine AQ.p rfl (AOp.load_cell 2 rfl rfl g1 rfl (by kernel_rfl)) ?_ | refine AQ.p rfl AOp.la ?_ | refine AQ.p rfl (AOp.ll 0) ?_ | refine AQ.p rfl (AOp.lw 0) ?_) <;> (first | refine AQ.p rfl (AOp.index_sl rfl rfl (by omega) e0 (by kernel_rfl) rfl) ?_ | refine AQ.p rfl (AOp.index_sl rfl rfl (by omega) e1 (by kernel_rfl) rfl) ?_ | refine AQ.p rfl (AOp.index_osl rfl rfl (by omega) (by omega) (by kernel_rfl)) ?_) <;> (first | refine AQ.p rfl (AOp.load_cell 2 rfl rfl g0 rfl (by kernel_rfl)) ?_ | refine AQ.p rfl (AOp.load_cell 2 rfl rfl g1 rfl (by kernel_rfl)) ?_ | refine AQ.p rfl AOp.la ?_ | refine AQ.p rfl (AOp.ll 0) ?_ | refine AQ.p rfl (AOp.lw 0) ?_) <;> refine AQ.e ?_ <;> refine AQ.e ?_ <;> (first | refine AQ.p rfl AOp.fa ?_ | refine AQ.p rfl (AOp.fr 2) ?_) <;> (first | refine AQ.p rfl (AOp.load_cell 2 rfl rfl g0 rfl (by kernel_rfl)) ?_ | refine AQ.p rfl (AOp.load_cell 2 rfl rfl g1 rfl (by kernel_rfl)) ?_ | refine AQ.p rfl AOp.la ?_ | refine AQ.p rfl (AOp.ll 0) ?_ | refine AQ.p rfl (AOp.lw 0) ?_) <;> (first | refine AQ.p rfl AOp.fa ?_ | refine AQ.p rfl (AOp.fr 3) ?_) <;> (first | refine AQ.p rfl (AOp.load_cell 2 rfl rfl g0 rfl (by kernel_rfl)) ?_ | refine AQ.p rfl (AOp.load_cell 2 rfl rfl g1 rfl (by kernel_rfl)) ?_ | refine AQ.p rfl AOp.la ?_ | refine AQ.p rfl (AOp.ll 0) ?_ | refine AQ.p rfl (AOp.lw 0) ?_) <;> (first | refine AQ.p rfl (AOp.index_sl rfl rfl (by omega) e0 (by kernel_rfl) rfl) ?_ | refine AQ.p rfl (AOp.index_sl rfl rfl (by omega) e1 (by kernel_rfl) rfl) ?_ | refine AQ.p rfl (AOp.index_osl rfl rfl (by omega) (by omega) (by kernel_rfl)) ?_) <;> (first | refine AQ.p rfl (AOp.load_cell 2 rfl rfl g0 rfl (by kernel_rfl)) ?_ | refine AQ.p rfl (AOp.load_cell 2 rfl rfl g1 rfl (by kernel_rfl)) ?_ | refine AQ.p rfl AOp.la ?_ | refine AQ.p rfl (AOp.ll 0) ?_ | refine AQ.p rfl (AOp.lw 0) ?_) <;> (first | refine AQ.p rfl (AOp.index_sl rfl rfl (by omega) e0 (by kernel_rfl) rfl) ?_ | refine AQ.p rfl (AOp.index_sl rfl rfl (by omega) e1 (by kernel_rfl) rfl) ?_ | refine AQ.p rfl (AOp.index_osl rfl rfl (by omega) (by omega) (by kernel_rfl)) ?_) <;> (first | refine AQ.p rfl (AOp.load_cell 2 rfl rfl g0 rfl (by kernel_rfl)) ?_ | refine AQ.p rfl (AOp.load_cell 2 rfl rfl g1 rfl (by kernel_rfl)) ?_ | refine AQ.p rfl AOp.la ?_ | refine AQ.p rfl (AOp.ll 0) ?_ | refine AQ.p rfl (AOp.lw 0) ?_) <;> refine AQ.e ?_ <;> refine AQ.e ?_ <;> refine AQ.nil ?_)
      | (refine AW.region_at 8 ?_ <;> refine AL.e ?_ <;> (first | refine AL.d AOp.fa ?_ | refine AL.d (AOp.fr 1) ?_) <;> (first | refine AL.d (AOp.load_cell 2 rfl rfl g0 rfl (by kernel_rfl)) ?_ | refine AL.d (AOp.load_cell 2 rfl rfl g1 rfl (by kernel_rfl)) ?_ | refine AL.d AOp.la ?_ | refine AL.d (AOp.ll 0) ?_ | refine AL.d (AOp.lw 0) ?_) <;> (first | refine AL.e ?_ | refine AL.d AOp.bn ?_) <;> refine AL.e ?_ <;> refine AL.nil ?_)
      | refine AW.cond_true rfl ?_
      | refine AW.cond_false rfl ?_
      | refine AW.block ?_
      | refine AW.endblk ?_
      | refine AW.skip ?_
      | refine AW.exit rfl ?_
      | refine AW.label ?_
      | refine AW.j (fun hb => ?_) (fun hb => ?_))
    all_goals first
      | (exfalso; simp only [beq_iff_eq] at *; omega)
      | ((first | refine AW.donev rfl ⟨?_, rfl⟩ | refine AW.retv rfl ⟨?_, rfl⟩); simp only [beq_iff_eq, beq_eq_false_iff_ne, ne_eq] at *; rw [holdsM]; simp_all [List.getD, ieq, bne, Bool.beq_comm])
  · rw [if_neg hk] at hs
    obtain ⟨hk0, ha⟩ := hs
    obtain ⟨hin, hlen, hle⟩ := hm.sig _ _ ha
    obtain ⟨j, hj, hrow⟩ := row_at E B m hin
    have hlk := look_rel B m hin
    have hrk := mach_rank hm l.At hr hle hl
    have hbd := rankM_bd hm.n.1 hm.regs l.At 0 0 (by rw [hm.rlen]; exact hr) (by omega) (by simp)
    rw [Nat.zero_add] at hbd
    have g0 := flag_get (fl := m.rels l.Name) (x := rankM E.n m.regs l.At 0) (by omega)
    refine Tri.enter 71 Tryz.func69 rfl rfl rfl rfl fun Fr w0 => ?_
    repeat' (first
      | refine AW.seq ?_
      | (refine AW.region_at 0 ?_ <;> (first | refine AL.d (AOp.box_ro (v := .st [.int .i64 l.Kind, .bool l.Neg, .str l.Name, ints l.At]) rfl rfl) ?_ | refine AL.d (AOp.box_ro rfl rfl) ?_) <;> refine AL.e ?_ <;> refine AL.nil ?_)
      | (refine AW.region_at 1 ?_ <;> refine AL.e ?_ <;> refine AL.nil ?_)
      | (refine AW.region_at 2 ?_ <;> (first | refine AL.d AOp.fa ?_ | refine AL.d (AOp.fr 0) ?_) <;> (first | refine AL.d (AOp.load_cell (j + 5) rfl hrow g0 rfl (by kernel_rfl)) ?_ | refine AL.d AOp.la ?_ | refine AL.d (AOp.ll 0) ?_ | refine AL.d (AOp.lw 0) ?_) <;> refine AL.nil ?_)
      | (refine AW.region_at 4 ?_ <;> refine AL.e ?_ <;> refine AL.e ?_ <;> refine AL.nil ?_)
      | (refine AW.da 5 ?_ <;> refine AQ.e ?_ <;> refine AQ.e ?_ <;> (first | refine AQ.p rfl AOp.fa ?_ | refine AQ.p rfl (AOp.fr 3) ?_) <;> (first | refine AQ.p rfl (AOp.load_cell (j + 5) rfl hrow g0 rfl (by kernel_rfl)) ?_ | refine AQ.p rfl AOp.la ?_ | refine AQ.p rfl (AOp.ll 0) ?_ | refine AQ.p rfl (AOp.lw 0) ?_) <;> (first | refine AQ.p rfl AOp.fa ?_ | refine AQ.p rfl (AOp.fr 2) ?_) <;> (first | refine AQ.p rfl (AOp.load_cell (j + 5) rfl hrow g0 rfl (by kernel_rfl)) ?_ | refine AQ.p rfl AOp.la ?_ | refine AQ.p rfl (AOp.ll 0) ?_ | refine AQ.p rfl (AOp.lw 0) ?_) <;> refine AQ.p rfl (AOp.lookS_hit (g := oslv) (ok := false) 3 29 hlk rfl rfl rfl (by kernel_rfl)) ?_ <;> refine AQ.e ?_ <;> (first | refine AQ.p rfl AOp.fa ?_ | refine AQ.p rfl (AOp.fr 3) ?_) <;> (first | refine AQ.p rfl (AOp.load_cell (j + 5) rfl hrow g0 rfl (by kernel_rfl)) ?_ | refine AQ.p rfl AOp.la ?_ | refine AQ.p rfl (AOp.ll 0) ?_ | refine AQ.p rfl (AOp.lw 0) ?_) <;> refine AQ.p rfl (AOp.call rfl rfl hrk) ?_ <;> refine AQ.p rfl (AOp.index_osl rfl rfl (by omega) (by omega) (by kernel_rfl)) ?_ <;> (first | refine AQ.p rfl (AOp.load_cell (j + 5) rfl hrow g0 rfl (by kernel_rfl)) ?_ | refine AQ.p rfl AOp.la ?_ | refine AQ.p rfl (AOp.ll 0) ?_ | refine AQ.p rfl (AOp.lw 0) ?_) <;> refine AQ.e ?_ <;> refine AQ.nil ?_)
      | (refine AW.region_at 6 ?_ <;> refine AL.e ?_ <;> refine AL.e ?_ <;> refine AL.nil ?_)
      | (refine AW.da 7 ?_ <;> refine AQ.e ?_ <;> refine AQ.e ?_ <;> (first | refine AQ.p rfl AOp.fa ?_ | refine AQ.p rfl (AOp.fr 2) ?_) <;> (first | refine AQ.p rfl (AOp.load_cell (j + 5) rfl hrow g0 rfl (by kernel_rfl)) ?_ | refine AQ.p rfl AOp.la ?_ | refine AQ.p rfl (AOp.ll 0) ?_ | refine AQ.p rfl (AOp.lw 0) ?_) <;> (first | refine AQ.p rfl AOp.fa ?_ | refine AQ.p rfl (AOp.fr 3) ?_) <;> (first | refine AQ.p rfl (AOp.load_cell (j + 5) rfl hrow g0 rfl (by kernel_rfl)) ?_ | refine AQ.p rfl AOp.la ?_ | refine AQ.p rfl (AOp.ll 0) ?_ | refine AQ.p rfl (AOp.lw 0) ?_) <;> refine AQ.p rfl (AOp.index_osl rfl rfl (by omega) (by omega) (by kernel_rfl)) ?_ <;> (first | refine AQ.p rfl (AOp.load_cell (j + 5) rfl hrow g0 rfl (by kernel_rfl)) ?_ | refine AQ.p rfl AOp.la ?_ | refine AQ.p rfl (AOp.ll 0) ?_ | refine AQ.p rfl (AOp.lw 0) ?_) <;> refine AQ.p rfl (AOp.index_osl rfl rfl (by omega) (by omega) (by kernel_rfl)) ?_ <;> (first | refine AQ.p rfl (AOp.load_cell (j + 5) rfl hrow g0 rfl (by kernel_rfl)) ?_ | refine AQ.p rfl AOp.la ?_ | refine AQ.p rfl (AOp.ll 0) ?_ | refine AQ.p rfl (AOp.lw 0) ?_) <;> refine AQ.e ?_ <;> refine AQ.e ?_ <;> (first | refine AQ.p rfl AOp.fa ?_ | refine AQ.p rfl (AOp.fr 2) ?_) <;> (first | refine AQ.p rfl (AOp.load_cell (j + 5) rfl hrow g0 rfl (by kernel_rfl)) ?_ | refine AQ.p rfl AOp.la ?_ | refine AQ.p rfl (AOp.ll 0) ?_ | refine AQ.p rfl (AOp.lw 0) ?_) <;> (first | refine AQ.p rfl AOp.fa ?_ | refine AQ.p rfl (AOp.fr 3) ?_) <;> (first | refine AQ.p rfl (AOp.load_cell (j + 5) rfl hrow g0 rfl (by kernel_rfl)) ?_ | refine AQ.p rfl AOp.la ?_ | refine AQ.p rfl (AOp.ll 0) ?_ | refine AQ.p rfl (AOp.lw 0) ?_) <;> refine AQ.p rfl (AOp.index_osl rfl rfl (by omega) (by omega) (by kernel_rfl)) ?_ <;> (first | refine AQ.p rfl (AOp.load_cell (j + 5) rfl hrow g0 rfl (by kernel_rfl)) ?_ | refine AQ.p rfl AOp.la ?_ | refine AQ.p rfl (AOp.ll 0) ?_ | refine AQ.p rfl (AOp.lw 0) ?_) <;> refine AQ.p rfl (AOp.index_osl rfl rfl (by omega) (by omega) (by kernel_rfl)) ?_ <;> (first | refine AQ.p rfl (AOp.load_cell (j + 5) rfl hrow g0 rfl (by kernel_rfl)) ?_ | refine AQ.p rfl AOp.la ?_ | refine AQ.p rfl (AOp.ll 0) ?_ | refine AQ.p rfl (AOp.lw 0) ?_) <;> refine AQ.e ?_ <;> refine AQ.e ?_ <;> refine AQ.nil ?_)
      | (refine AW.da 3 ?_ <;> refine AQ.e ?_ <;> refine AQ.e ?_ <;> (first | refine AQ.p rfl AOp.fa ?_ | refine AQ.p rfl (AOp.fr 2) ?_) <;> (first | refine AQ.p rfl (AOp.load_cell (j + 5) rfl hrow g0 rfl (by kernel_rfl)) ?_ | refine AQ.p rfl AOp.la ?_ | refine AQ.p rfl (AOp.ll 0) ?_ | refine AQ.p rfl (AOp.lw 0) ?_) <;> (first | refine AQ.p rfl AOp.fa ?_ | refine AQ.p rfl (AOp.fr 3) ?_) <;> (first | refine AQ.p rfl (AOp.load_cell (j + 5) rfl hrow g0 rfl (by kernel_rfl)) ?_ | refine AQ.p rfl AOp.la ?_ | refine AQ.p rfl (AOp.ll 0) ?_ | refine AQ.p rfl (AOp.lw 0) ?_) <;> refine AQ.p rfl (AOp.index_osl rfl rfl (by omega) (by omega) (by kernel_rfl)) ?_ <;> (first | refine AQ.p rfl (AOp.load_cell (j + 5) rfl hrow g0 rfl (by kernel_rfl)) ?_ | refine AQ.p rfl AOp.la ?_ | refine AQ.p rfl (AOp.ll 0) ?_ | refine AQ.p rfl (AOp.lw 0) ?_) <;> refine AQ.p rfl (AOp.index_osl rfl rfl (by omega) (by omega) (by kernel_rfl)) ?_ <;> (first | refine AQ.p rfl (AOp.load_cell (j + 5) rfl hrow g0 rfl (by kernel_rfl)) ?_ | refine AQ.p rfl AOp.la ?_ | refine AQ.p rfl (AOp.ll 0) ?_ | refine AQ.p rfl (AOp.lw 0) ?_) <;> refine AQ.e ?_ <;> refine AQ.e ?_ <;> (first | refine AQ.p rfl AOp.fa ?_ | refine AQ.p rfl (AOp.fr 2) ?_) <;> (first | refine AQ.p rfl (AOp.load_cell (j + 5) rfl hrow g0 rfl (by kernel_rfl)) ?_ | refine AQ.p rfl AOp.la ?_ | refine AQ.p rfl (AOp.ll 0) ?_ | refine AQ.p rfl (AOp.lw 0) ?_) <;> (first | refine AQ.p rfl AOp.fa ?_ | refine AQ.p rfl (AOp.fr 3) ?_) <;> (first | refine AQ.p rfl (AOp.load_cell (j + 5) rfl hrow g0 rfl (by kernel_rfl)) ?_ | refine AQ.p rfl AOp.la ?_ | refine AQ.p rfl (AOp.ll 0) ?_ | refine AQ.p rfl (AOp.lw 0) ?_) <;> refine AQ.p rfl (AOp.index_osl rfl rfl (by omega) (by omega) (by kernel_rfl)) ?_ <;> (first | refine AQ.p rfl (AOp.load_cell (j + 5) rfl hrow g0 rfl (by kernel_rfl)) ?_ | refine AQ.p rfl AOp.la ?_ | refine AQ.p rfl (AOp.ll 0) ?_ | refine AQ.p rfl (AOp.lw 0) ?_) <;> refine AQ.p rfl (AOp.index_osl rfl rfl (by omega) (by omega) (by kernel_rfl)) ?_ <;> (first | refine AQ.p rfl (AOp.load_cell (j + 5) rfl hrow g0 rfl (by kernel_rfl)) ?_ | refine AQ.p rfl AOp.la ?_ | refine AQ.p rfl (AOp.ll 0) ?_ | refine AQ.p rfl (AOp.lw 0) ?_) <;> refine AQ.e ?_ <;> refine AQ.e ?_ <;> refine AQ.nil ?_)
      | (refine AW.region_at 8 ?_ <;> refine AL.e ?_ <;> (first | refine AL.d AOp.fa ?_ | refine AL.d (AOp.fr 1) ?_) <;> (first | refine AL.d (AOp.load_cell (j + 5) rfl hrow g0 rfl (by kernel_rfl)) ?_ | refine AL.d AOp.la ?_ | refine AL.d (AOp.ll 0) ?_ | refine AL.d (AOp.lw 0) ?_) <;> (first | refine AL.e ?_ | refine AL.d AOp.bn ?_) <;> refine AL.e ?_ <;> refine AL.nil ?_)
      | refine AW.cond_true rfl ?_
      | refine AW.cond_false rfl ?_
      | refine AW.block ?_
      | refine AW.endblk ?_
      | refine AW.skip ?_
      | refine AW.exit rfl ?_
      | refine AW.label ?_
      | refine AW.j (fun hb => ?_) (fun hb => ?_))
    all_goals first
      | (exfalso; simp only [beq_iff_eq, beq_eq_false_iff_ne, ne_eq] at *; omega)
      | ((first | refine AW.donev rfl ⟨?_, rfl⟩ | refine AW.retv rfl ⟨?_, rfl⟩); rw [holdsM, if_pos hk0]; cases flagAt (m.rels l.Name) (rankM E.n m.regs l.At 0) <;> cases l.Neg <;> rfl)
theorem mach_0 (hm : MFit F R sig E B m) (s : GStmt) (hs : Fit F R sig s) (hk : s.Kind = 0) (hl : s.Lit.At.length ≤ 4611686018427387904) : Tri Tryz.prog 68 [.ref B.mb 0, s.st] (m.ah E B) (D (.tup []) ((prim E.n s m).ah E B)) := by
  have hf := hs.f (by rw [hk]; rfl)
  have hfl := hm.flen
  have hlt := hs.lit (by rw [hk]; rfl)
  have hh := mach_holds hm s.Lit hl hlt.1 hlt.2
  refine Tri.enter 15 Tryz.func68 rfl rfl rfl rfl fun Fr w0 => ?_
  repeat' (first
    | refine AW.seq ?_
    | (refine AW.region_at 0 ?_ <;> refine AL.d (AOp.box_ro rfl rfl) ?_ <;> refine AL.nil ?_)
    | (refine AW.draw_last_at 1 11 rfl (by kernel_rfl) (by kernel_rfl) (by kernel_rfl) (by kernel_rfl) ?_ <;> refine AQ.e ?_ <;> refine AQ.e ?_ <;> (first | refine AQ.p rfl AOp.fa ?_ | refine AQ.p rfl (AOp.fr 1) ?_) <;> (first | refine AQ.p rfl AOp.la ?_ | refine AQ.p rfl (AOp.ll 0) ?_ | refine AQ.p rfl (AOp.lw 0) ?_) <;> (first | refine AQ.p rfl AOp.fa ?_ | refine AQ.p rfl (AOp.fr 1) ?_) <;> (first | refine AQ.p rfl AOp.la ?_ | refine AQ.p rfl (AOp.ll 0) ?_ | refine AQ.p rfl (AOp.lw 0) ?_) <;> refine AQ.e ?_ <;> (first | refine AQ.p rfl AOp.fa ?_ | refine AQ.p rfl (AOp.fr 7) ?_) <;> (first | refine AQ.p rfl AOp.la ?_ | refine AQ.p rfl (AOp.ll 0) ?_ | refine AQ.p rfl (AOp.lw 0) ?_) <;> refine AQ.p rfl (AOp.call rfl rfl hh) ?_ <;> refine AQ.p rfl (AOp.index_osl rfl rfl (by omega) (by omega) (by kernel_rfl)) ?_ <;> refine AQ.nil ?_ <;> (first | (refine AL.store_cell 1 rfl rfl rfl (by simp; omega) rfl rfl (by kernel_rfl) ?_) | refine AL.sl 0 ?_) <;> refine AL.nil ?_)
    | refine AW.cond_true rfl ?_
    | refine AW.cond_false rfl ?_
    | refine AW.block ?_
    | refine AW.endblk ?_
    | refine AW.skip ?_
    | refine AW.exit rfl ?_
    | refine AW.label ?_
    | refine AW.j (fun hb => ?_) (fun hb => ?_))
  refine AW.donev rfl ⟨rfl, ?_⟩
  refine (ah_setflag E B m s.F _).trans ?_
  simp [prim, hk]
theorem mach_13 (hm : MFit F R sig E B m) (s : GStmt) (hs : Fit F R sig s) (hk : s.Kind = 13) : Tri Tryz.prog 84 [.ref B.mb 0, s.st] (m.ah E B) (D (.tup []) ((prim E.n s m).ah E B)) := by
  obtain ⟨a, ha⟩ := hs.name (by rw [hk]; rfl)
  obtain ⟨hin, hlen, hle⟩ := hm.sig _ _ ha
  obtain ⟨j, hj, hrow⟩ := row_at E B m hin
  have hlk := look_rel B m hin
  have ha2 := (hs.frm (by rw [hk]; rfl)).trans ha
  obtain ⟨hin2, hlen2, hle2⟩ := hm.sig _ _ ha2
  obtain ⟨j2, hj2, hrow2⟩ := row_at E B m hin2
  have hlk2 := look_rel B m hin2
  have hll : (m.rels s.From).length = (m.rels s.Name).length := by omega
  refine Tri.enter 19 Tryz.func84 rfl rfl rfl rfl fun Fr w0 => ?_
  repeat' (first
    | refine AW.seq ?_
    | (refine AW.region_at 0 ?_ <;> refine AL.d (AOp.box_ro rfl rfl) ?_ <;> refine AL.nil ?_)
    | (refine AW.draw_last_at 1 14 rfl (by kernel_rfl) (by kernel_rfl) (by kernel_rfl) (by kernel_rfl) ?_ <;> refine AQ.e ?_ <;> refine AQ.e ?_ <;> (first | refine AQ.p rfl AOp.fa ?_ | refine AQ.p rfl (AOp.fr 3) ?_) <;> (first | refine AQ.p rfl AOp.la ?_ | refine AQ.p rfl (AOp.ll 0) ?_ | refine AQ.p rfl (AOp.lw 0) ?_) <;> (first | refine AQ.p rfl AOp.fa ?_ | refine AQ.p rfl (AOp.fr 5) ?_) <;> (first | refine AQ.p rfl AOp.la ?_ | refine AQ.p rfl (AOp.ll 0) ?_ | refine AQ.p rfl (AOp.lw 0) ?_) <;> (first | refine AQ.p rfl (AOp.lookS_hit (g := oslv) (ok := false) 3 29 hlk rfl rfl rfl (by kernel_rfl)) ?_ | refine AQ.p rfl (AOp.lookS_hit (g := oslv) (ok := false) 3 29 hlk2 rfl rfl rfl (by kernel_rfl)) ?_) <;> refine AQ.e ?_ <;> refine AQ.e ?_ <;> (first | refine AQ.p rfl AOp.fa ?_ | refine AQ.p rfl (AOp.fr 3) ?_) <;> (first | refine AQ.p rfl AOp.la ?_ | refine AQ.p rfl (AOp.ll 0) ?_ | refine AQ.p rfl (AOp.lw 0) ?_) <;> (first | refine AQ.p rfl AOp.fa ?_ | refine AQ.p rfl (AOp.fr 6) ?_) <;> (first | refine AQ.p rfl AOp.la ?_ | refine AQ.p rfl (AOp.ll 0) ?_ | refine AQ.p rfl (AOp.lw 0) ?_) <;> (first | refine AQ.p rfl (AOp.lookS_hit (g := oslv) (ok := false) 3 29 hlk rfl rfl rfl (by kernel_rfl)) ?_ | refine AQ.p rfl (AOp.lookS_hit (g := oslv) (ok := false) 3 29 hlk2 rfl rfl rfl (by kernel_rfl)) ?_) <;> refine AQ.nil ?_ <;> refine AL.d (AOp.copy_osl (m := (m.rels s.Name).length) (e := 4) (c0 := .bool false) (bytes := 1) rfl hrow (by simp) rfl hrow2 (by simp) (by kernel_rfl) (all_map fun _ => rfl) (ok_map fun _ => rfl) (by rw [hll]; exact (Nat.min_self _).symm)) ?_ <;> refine AL.nil ?_)
    | refine AW.cond_true rfl ?_
    | refine AW.cond_false rfl ?_
    | refine AW.block ?_
    | refine AW.endblk ?_
    | refine AW.skip ?_
    | refine AW.exit rfl ?_
    | refine AW.label ?_
    | refine AW.j (fun hb => ?_) (fun hb => ?_))
  refine AW.donev rfl ⟨rfl, ?_⟩
  have := ah_setrow E B m hm.nodup hj (m.rels s.From) hll
  rw [show ((m.rels s.Name).map bav).drop (m.rels s.Name).length = [] by simp, List.append_nil, List.take_of_length_le (by simp; omega)]
  refine this.trans ?_
  simp [prim, hk]
theorem slices_EqualB (ah : AH) (xs ys : List Bool) (b b2 i j n n2 : Nat) (hi : ah[i]? = some (.row b (xs.map bav))) (hj : ah[j]? = some (.row b2 (ys.map bav))) (hn : n = xs.length) (hn2 : n2 = ys.length) (hl : n ≤ 4611686018427387904) (hl2 : n2 ≤ 4611686018427387904) :
    Tri Tryz.prog 86 [.osl b n n, .osl b2 n2 n2] ah (D (.bool (decide (xs = ys))) ah) := by
  refine Tri.enter 26 Tryz.func86 rfl rfl rfl rfl fun Fr w0 => ?_
  repeat' (first
    | refine AW.seq ?_
    | (refine AW.region_at 0 ?_ <;> refine AL.e ?_ <;> refine AL.nil ?_)
    | (refine AW.region_at 1 ?_ <;> refine AL.e ?_ <;> refine AL.d AOp.ln ?_ <;> refine AL.e ?_ <;> refine AL.d AOp.ln ?_ <;> refine AL.e ?_ <;> refine AL.nil ?_)
    | (refine AW.region_at 2 ?_ <;> refine AL.e ?_ <;> refine AL.nil ?_)
    | (refine AW.region_at 3 ?_ <;> refine AL.e ?_ <;> refine AL.d AOp.ln ?_ <;> refine AL.e ?_ <;> refine AL.nil ?_)
    | refine AW.cond_true rfl ?_
    | refine AW.cond_false rfl ?_
    | refine AW.block ?_
    | refine AW.endblk ?_
    | refine AW.skip ?_
    | refine AW.exit rfl ?_
    | refine AW.label ?_
    | refine AW.j (fun hb => ?_) (fun hb => ?_))
  · refine AW.retv rfl ⟨?_, rfl⟩
    have : xs ≠ ys := by rintro rfl; subst hn hn2; simp at hb
    simp [this, ofConst]
  have hb' : n = n2 := by simp at hb; omega
  refine AW.prune [0, 1, 12, 13] (AW.loop (fun m af h => ∃ i : Nat, i ≤ n ∧ m = n - i ∧ af = [(0, .osl b n n), (1, .osl b2 n2 n2), (12, .int .i64 n), (13, .int .i64 i)] ∧ h = ah ∧ (xs = ys ↔ xs.drop i = ys.drop i)) n ⟨0, Nat.zero_le _, rfl, rfl, rfl, by simp⟩ ?_)
  rintro m af h ⟨k, hk, rfl, rfl, rfl, he⟩
  refine AW.seq ?_
  by_cases hlt : k < n
  · obtain ⟨x, hx⟩ := get_lt (show k < xs.length by omega)
    obtain ⟨y, hy⟩ := get_lt (show k < ys.length by omega)
    have hx' : (xs.map bav)[((k : Nat) : Int).toNat]? = some (.bool x) := map_get hx
    have hy' : (ys.map bav)[((k : Nat) : Int).toNat]? = some (.bool y) := map_get hy
    rw [drop_cons hx, drop_cons hy] at he
    repeat' (first
      | refine AW.seq ?_
      | (refine AW.region_at 4 ?_ <;> refine AL.e ?_ <;> refine AL.nil ?_)
      | (refine AW.region_at 5 ?_ <;> refine AL.e ?_ <;> refine AL.e ?_ <;> refine AL.nil ?_)
      | (refine AW.da 6 ?_ <;> refine AQ.e ?_ <;> refine AQ.e ?_ <;> refine AQ.p rfl (AOp.index_osl rfl rfl (by omega) (by omega) (by kernel_rfl)) ?_ <;> (first | refine AQ.p rfl (AOp.load_cell i rfl hi hx' rfl (by kernel_rfl)) ?_ | refine AQ.p rfl (AOp.load_cell j rfl hj hy' rfl (by kernel_rfl)) ?_ | refine AQ.p rfl AOp.la ?_) <;> refine AQ.e ?_ <;> refine AQ.e ?_ <;> refine AQ.p rfl (AOp.index_osl rfl rfl (by omega) (by omega) (by kernel_rfl)) ?_ <;> (first | refine AQ.p rfl (AOp.load_cell i rfl hi hx' rfl (by kernel_rfl)) ?_ | refine AQ.p rfl (AOp.load_cell j rfl hj hy' rfl (by kernel_rfl)) ?_ | refine AQ.p rfl AOp.la ?_) <;> (first | refine AQ.e ?_ | refine AQ.p rfl AOp.bn ?_) <;> refine AQ.nil ?_)
      | (refine AW.region_at 7 ?_ <;> refine AL.e ?_ <;> refine AL.nil ?_)
      | (refine AW.region_at 8 ?_ <;> refine AL.d AOp.ad ?_ <;> refine AL.e ?_ <;> refine AL.nil ?_)
      | refine AW.cond_true rfl ?_
      | refine AW.cond_false rfl ?_
      | refine AW.block ?_
      | refine AW.endblk ?_
      | refine AW.skip ?_
      | refine AW.exit rfl ?_
      | refine AW.label ?_
      | refine AW.j (fun hb => ?_) (fun hb => ?_))
    all_goals first
      | (exfalso; simp only [decide_eq_true_eq, decide_eq_false_iff_not, List.length_map] at *; omega)
      | (refine AW.retv rfl ⟨?_, rfl⟩; cases x <;> cases y <;> simp_all [ofConst]; done)
      | (refine AW.again_keep (n - (k + 1)) [0, 1, 12, 13] (by omega) ⟨k + 1, hlt, rfl, rfl, rfl, ?_⟩; rw [he]; cases x <;> cases y <;> simp_all)
  · rw [List.drop_eq_nil_of_le (by omega), List.drop_eq_nil_of_le (by omega)] at he
    repeat' (first
      | refine AW.seq ?_
      | (refine AW.region_at 4 ?_ <;> refine AL.e ?_ <;> refine AL.nil ?_)
      | (refine AW.region_at 9 ?_ <;> refine AL.e ?_ <;> refine AL.nil ?_)
      | refine AW.cond_true rfl ?_
      | refine AW.cond_false rfl ?_
      | refine AW.block ?_
      | refine AW.endblk ?_
      | refine AW.skip ?_
      | refine AW.exit rfl ?_
      | refine AW.label ?_
      | refine AW.j (fun hb => ?_) (fun hb => ?_))
    all_goals first
      | (exfalso; simp only [decide_eq_true_eq, decide_eq_false_iff_not, List.length_map] at *; omega)
      | (refine AW.retv rfl ⟨?_, rfl⟩; simp [he.2 rfl, ofConst])
theorem mach_14 (hm : MFit F R sig E B m) (s : GStmt) (hs : Fit F R sig s) (hk : s.Kind = 14) : Tri Tryz.prog 85 [.ref B.mb 0, s.st] (m.ah E B) (D (.tup []) ((prim E.n s m).ah E B)) := by
  have hf := hs.f (by rw [hk]; rfl)
  have hfl := hm.flen
  obtain ⟨a, ha⟩ := hs.name (by rw [hk]; rfl)
  obtain ⟨hin, hlen, hle⟩ := hm.sig _ _ ha
  obtain ⟨j, hj, hrow⟩ := row_at E B m hin
  have hlk := look_rel B m hin
  have ha2 := (hs.frm (by rw [hk]; rfl)).trans ha
  obtain ⟨hin2, hlen2, hle2⟩ := hm.sig _ _ ha2
  obtain ⟨j2, hj2, hrow2⟩ := row_at E B m hin2
  have hlk2 := look_rel B m hin2
  have hll : (m.rels s.From).length = (m.rels s.Name).length := by omega
  have hE := slices_EqualB (m.ah E B) (m.rels s.Name) (m.rels s.From) _ _ _ _ _ _ hrow hrow2 rfl rfl (by omega) (by omega)
  refine Tri.enter 26 Tryz.func85 rfl rfl rfl rfl fun Fr w0 => ?_
  repeat' (first
    | refine AW.seq ?_
    | (refine AW.region_at 0 ?_ <;> refine AL.d (AOp.box_ro rfl rfl) ?_ <;> refine AL.nil ?_)
    | (refine AW.draw_last_at 1 22 rfl (by kernel_rfl) (by kernel_rfl) (by kernel_rfl) (by kernel_rfl) ?_ <;> refine AQ.e ?_ <;> refine AQ.e ?_ <;> (first | refine AQ.p rfl AOp.fa ?_ | refine AQ.p rfl (AOp.fr 1) ?_) <;> (first | refine AQ.p rfl AOp.la ?_ | refine AQ.p rfl (AOp.ll 0) ?_ | refine AQ.p rfl (AOp.lw 0) ?_) <;> (first | refine AQ.p rfl AOp.fa ?_ | refine AQ.p rfl (AOp.fr 1) ?_) <;> (first | refine AQ.p rfl AOp.la ?_ | refine AQ.p rfl (AOp.ll 0) ?_ | refine AQ.p rfl (AOp.lw 0) ?_) <;> refine AQ.e ?_ <;> refine AQ.e ?_ <;> (first | refine AQ.p rfl AOp.fa ?_ | refine AQ.p rfl (AOp.fr 3) ?_) <;> (first | refine AQ.p rfl AOp.la ?_ | refine AQ.p rfl (AOp.ll 0) ?_ | refine AQ.p rfl (AOp.lw 0) ?_) <;> (first | refine AQ.p rfl AOp.fa ?_ | refine AQ.p rfl (AOp.fr 5) ?_) <;> (first | refine AQ.p rfl AOp.la ?_ | refine AQ.p rfl (AOp.ll 0) ?_ | refine AQ.p rfl (AOp.lw 0) ?_) <;> (first | refine AQ.p rfl (AOp.lookS_hit (g := oslv) (ok := false) 3 29 hlk rfl rfl rfl (by kernel_rfl)) ?_ | refine AQ.p rfl (AOp.lookS_hit (g := oslv) (ok := false) 3 29 hlk2 rfl rfl rfl (by kernel_rfl)) ?_) <;> refine AQ.e ?_ <;> refine AQ.e ?_ <;> (first | refine AQ.p rfl AOp.fa ?_ | refine AQ.p rfl (AOp.fr 3) ?_) <;> (first | refine AQ.p rfl AOp.la ?_ | refine AQ.p rfl (AOp.ll 0) ?_ | refine AQ.p rfl (AOp.lw 0) ?_) <;> (first | refine AQ.p rfl AOp.fa ?_ | refine AQ.p rfl (AOp.fr 6) ?_) <;> (first | refine AQ.p rfl AOp.la ?_ | refine AQ.p rfl (AOp.ll 0) ?_ | refine AQ.p rfl (AOp.lw 0) ?_) <;> (first | refine AQ.p rfl (AOp.lookS_hit (g := oslv) (ok := false) 3 29 hlk rfl rfl rfl (by kernel_rfl)) ?_ | refine AQ.p rfl (AOp.lookS_hit (g := oslv) (ok := false) 3 29 hlk2 rfl rfl rfl (by kernel_rfl)) ?_) <;> refine AQ.p rfl (AOp.call rfl rfl hE) ?_ <;> refine AQ.p rfl (AOp.index_osl rfl rfl (by omega) (by omega) (by kernel_rfl)) ?_ <;> refine AQ.nil ?_ <;> (first | (refine AL.store_cell 1 rfl rfl rfl (by simp; omega) rfl rfl (by kernel_rfl) ?_) | refine AL.sl 0 ?_) <;> refine AL.nil ?_)
    | refine AW.cond_true rfl ?_
    | refine AW.cond_false rfl ?_
    | refine AW.block ?_
    | refine AW.endblk ?_
    | refine AW.skip ?_
    | refine AW.exit rfl ?_
    | refine AW.label ?_
    | refine AW.j (fun hb => ?_) (fun hb => ?_))
  refine AW.donev rfl ⟨rfl, ?_⟩
  refine (ah_setflag E B m s.F _).trans ?_
  simp [prim, hk]
end
end Go.Proofs.YtdedkpfbfklgbaaGreat
namespace Go.Proofs.YtdedkpfbfklgbaaGreat
open Go.RowKit Go.SX
set_option maxRecDepth 100000
set_option maxHeartbeats 4000000
set_option linter.unusedVariables false
set_option linter.unusedSimpArgs false

/-- What a run panics with. -/
def stopV (e : Int) : AV := .val (.iface 75 (.int .i64 e))
def MS.step (m : MS) : MS := { m with steps := m.steps + 1 }
section
variable {F R : Nat} {sig : ByteArray → Option Nat} {E : Env} {B : Blk} {m : MS}
theorem mach_step_ok (hm : MFit F R sig E B m) (h : m.steps < E.fuel) : Tri Tryz.prog 81 [.ref B.mb 0] (m.ah E B) (D (.tup []) (m.step.ah E B)) := by
  have h1 := hm.fuel
  have h2 := hm.steps
  refine Tri.enter 19 Tryz.func81 rfl rfl rfl rfl fun Fr w0 => ?_
  repeat' (first
    | refine AW.seq ?_
    | (refine AW.da 0 ?_ <;> refine AQ.e ?_ <;> refine AQ.e ?_ <;> (first | refine AQ.p rfl AOp.fa ?_ | refine AQ.p rfl (AOp.fr 6) ?_) <;> (first | refine AQ.p rfl AOp.la ?_ | refine AQ.p rfl (AOp.ll 0) ?_ | refine AQ.p rfl (AOp.lw 0) ?_) <;> refine AQ.e ?_ <;> refine AQ.e ?_ <;> (first | refine AQ.p rfl AOp.fa ?_ | refine AQ.p rfl (AOp.fr 7) ?_) <;> (first | refine AQ.p rfl AOp.la ?_ | refine AQ.p rfl (AOp.ll 0) ?_ | refine AQ.p rfl (AOp.lw 0) ?_) <;> refine AQ.e ?_ <;> refine AQ.nil ?_)
    | (refine AW.region_at 1 ?_ <;> refine AL.d (AOp.iface rfl rfl (by kernel_rfl)) ?_ <;> fail)
    | (refine AW.region_at 2 ?_ <;> refine AL.e ?_ <;> refine AL.e ?_ <;> (first | refine AL.d AOp.fa ?_ | refine AL.d (AOp.fr 6) ?_) <;> (first | refine AL.d AOp.la ?_ | refine AL.d (AOp.ll 0) ?_ | refine AL.d (AOp.lw 0) ?_) <;> refine AL.d AOp.ad ?_ <;> refine AL.e ?_ <;> (first | refine AL.d AOp.fa ?_ | refine AL.d (AOp.fr 6) ?_) <;> refine AL.sl 0 ?_ <;> refine AL.nil ?_)
    | refine AW.cond_true rfl ?_
    | refine AW.cond_false rfl ?_
    | refine AW.block ?_
    | refine AW.endblk ?_
    | refine AW.skip ?_
    | refine AW.exit rfl ?_
    | refine AW.label ?_
    | refine AW.j (fun hb => ?_) (fun hb => ?_))
  all_goals first
    | (exfalso; simp only [decide_eq_true_eq, decide_eq_false_iff_not] at *; omega)
    | exact AW.donev rfl ⟨rfl, rfl⟩
theorem mach_step_bad (hm : MFit F R sig E B m) (h : ¬ m.steps < E.fuel) : Tri Tryz.prog 81 [.ref B.mb 0] (m.ah E B) (fun x h => x = .pan (stopV 7) ∧ h = m.ah E B) := by
  have h1 := hm.fuel
  have h2 := hm.steps
  refine Tri.enter 19 Tryz.func81 rfl rfl rfl rfl fun Fr w0 => ?_
  repeat' (first
    | refine AW.seq ?_
    | (refine AW.da 0 ?_ <;> refine AQ.e ?_ <;> refine AQ.e ?_ <;> (first | refine AQ.p rfl AOp.fa ?_ | refine AQ.p rfl (AOp.fr 6) ?_) <;> (first | refine AQ.p rfl AOp.la ?_ | refine AQ.p rfl (AOp.ll 0) ?_ | refine AQ.p rfl (AOp.lw 0) ?_) <;> refine AQ.e ?_ <;> refine AQ.e ?_ <;> (first | refine AQ.p rfl AOp.fa ?_ | refine AQ.p rfl (AOp.fr 7) ?_) <;> (first | refine AQ.p rfl AOp.la ?_ | refine AQ.p rfl (AOp.ll 0) ?_ | refine AQ.p rfl (AOp.lw 0) ?_) <;> refine AQ.e ?_ <;> refine AQ.nil ?_)
    | (refine AW.region_at 1 ?_ <;> refine AL.d (AOp.iface rfl rfl (by kernel_rfl)) ?_ <;> refine AL.panic rfl rfl ?_)
    | (refine AW.region_at 2 ?_ <;> refine AL.e ?_ <;> refine AL.e ?_ <;> (first | refine AL.d AOp.fa ?_ | refine AL.d (AOp.fr 6) ?_) <;> (first | refine AL.d AOp.la ?_ | refine AL.d (AOp.ll 0) ?_ | refine AL.d (AOp.lw 0) ?_) <;> refine AL.d AOp.ad ?_ <;> refine AL.e ?_ <;> (first | refine AL.d AOp.fa ?_ | refine AL.d (AOp.fr 6) ?_) <;> refine AL.sl 0 ?_ <;> refine AL.nil ?_)
    | refine AW.cond_true rfl ?_
    | refine AW.cond_false rfl ?_
    | refine AW.block ?_
    | refine AW.endblk ?_
    | refine AW.skip ?_
    | refine AW.exit rfl ?_
    | refine AW.label ?_
    | refine AW.j (fun hb => ?_) (fun hb => ?_))
  all_goals first
    | (exfalso; simp only [decide_eq_true_eq, decide_eq_false_iff_not] at *; omega)
    | exact APan.of ⟨rfl, rfl⟩
def MS.guess (G : List Bool) (s : GStmt) (m : MS) : MS :=
  { m with rels := upd m.rels s.Name ((G.drop m.used.toNat).take (m.rels s.Name).length), used := m.used + (m.rels s.Name).length }
theorem mach_guess_bad (hm : MFit F R sig E B m) (s : GStmt) (hs : Fit F R sig s) (hk : s.Kind = 12) (h : (E.G.length : Int) - m.used < (m.rels s.Name).length) : Tri Tryz.prog 83 [.ref B.mb 0, s.st] (m.ah E B) (fun x h => x = .pan (stopV 2) ∧ h = m.ah E B) := by
  obtain ⟨a, ha⟩ := hs.name (by rw [hk]; rfl)
  obtain ⟨hin, hlen, hle⟩ := hm.sig _ _ ha
  have hlk := look_rel B m hin
  have hu := hm.used
  have hgl := hm.glen
  have hgl2 : ((E.G.map bav).length : Int) = E.G.length := by simp
  refine Tri.enter 46 Tryz.func83 rfl rfl rfl rfl fun Fr w0 => ?_
  repeat' (first
    | refine AW.seq ?_
    | (refine AW.region_at 0 ?_ <;> refine AL.d (AOp.box_ro rfl rfl) ?_ <;> refine AL.nil ?_)
    | (refine AW.da 1 ?_ <;> refine AQ.e ?_ <;> refine AQ.e ?_ <;> (first | refine AQ.p rfl AOp.fa ?_ | refine AQ.p rfl (AOp.fr 3) ?_) <;> (first | refine AQ.p rfl AOp.la ?_ | refine AQ.p rfl (AOp.ll 0) ?_ | refine AQ.p rfl (AOp.lw 0) ?_) <;> (first | refine AQ.p rfl AOp.fa ?_ | refine AQ.p rfl (AOp.fr 5) ?_) <;> (first | refine AQ.p rfl AOp.la ?_ | refine AQ.p rfl (AOp.ll 0) ?_ | refine AQ.p rfl (AOp.lw 0) ?_) <;> refine AQ.p rfl (AOp.lookS_hit (g := oslv) (ok := false) 3 29 hlk rfl rfl rfl (by kernel_rfl)) ?_ <;> refine AQ.e ?_ <;> refine AQ.nil ?_)
    | (refine AW.da 2 ?_ <;> refine AQ.e ?_ <;> refine AQ.e ?_ <;> (first | refine AQ.p rfl AOp.fa ?_ | refine AQ.p rfl (AOp.fr 4) ?_) <;> (first | refine AQ.p rfl AOp.la ?_ | refine AQ.p rfl (AOp.ll 0) ?_ | refine AQ.p rfl (AOp.lw 0) ?_) <;> refine AQ.p rfl AOp.ln ?_ <;> refine AQ.e ?_ <;> refine AQ.e ?_ <;> (first | refine AQ.p rfl AOp.fa ?_ | refine AQ.p rfl (AOp.fr 5) ?_) <;> (first | refine AQ.p rfl AOp.la ?_ | refine AQ.p rfl (AOp.ll 0) ?_ | refine AQ.p rfl (AOp.lw 0) ?_) <;> refine AQ.p rfl AOp.sb ?_ <;> refine AQ.e ?_ <;> refine AQ.p rfl AOp.ln ?_ <;> refine AQ.e ?_ <;> refine AQ.nil ?_)
    | (refine AW.region_at 3 ?_ <;> refine AL.d (AOp.iface rfl rfl (by kernel_rfl)) ?_ <;> refine AL.panic rfl rfl ?_)
    | (refine AW.draw_last_at 4 10 rfl (by kernel_rfl) (by kernel_rfl) (by kernel_rfl) (by kernel_rfl) ?_ <;> refine AQ.e ?_ <;> refine AQ.e ?_ <;> refine AQ.e ?_ <;> (first | refine AQ.p rfl AOp.fa ?_ | refine AQ.p rfl (AOp.fr 4) ?_) <;> (first | refine AQ.p rfl AOp.la ?_ | refine AQ.p rfl (AOp.ll 0) ?_ | refine AQ.p rfl (AOp.lw 0) ?_) <;> refine AQ.e ?_ <;> refine AQ.e ?_ <;> (first | refine AQ.p rfl AOp.fa ?_ | refine AQ.p rfl (AOp.fr 5) ?_) <;> (first | refine AQ.p rfl AOp.la ?_ | refine AQ.p rfl (AOp.ll 0) ?_ | refine AQ.p rfl (AOp.lw 0) ?_) <;> fail <;> refine AQ.nil ?_ <;> fail <;> refine AL.nil ?_)
    | (refine AW.region_at 5 ?_ <;> refine AL.e ?_ <;> refine AL.e ?_ <;> (first | refine AL.d AOp.fa ?_ | refine AL.d (AOp.fr 5) ?_) <;> (first | refine AL.d AOp.la ?_ | refine AL.d (AOp.ll 0) ?_ | refine AL.d (AOp.lw 0) ?_) <;> refine AL.e ?_ <;> refine AL.d AOp.ln ?_ <;> refine AL.d AOp.ad ?_ <;> refine AL.e ?_ <;> (first | refine AL.d AOp.fa ?_ | refine AL.d (AOp.fr 5) ?_) <;> refine AL.sl 0 ?_ <;> refine AL.nil ?_)
    | refine AW.cond_true rfl ?_
    | refine AW.cond_false rfl ?_
    | refine AW.block ?_
    | refine AW.endblk ?_
    | refine AW.skip ?_
    | refine AW.exit rfl ?_
    | refine AW.label ?_
    | refine AW.j (fun hb => ?_) (fun hb => ?_))
  all_goals first
    | (exfalso; simp only [decide_eq_true_eq, decide_eq_false_iff_not] at *; omega)
    | exact APan.of ⟨rfl, rfl⟩
theorem mach_guess_ok (hm : MFit F R sig E B m) (s : GStmt) (hs : Fit F R sig s) (hk : s.Kind = 12) (h : ¬ (E.G.length : Int) - m.used < (m.rels s.Name).length) : Tri Tryz.prog 83 [.ref B.mb 0, s.st] (m.ah E B) (D (.tup []) ((m.guess E.G s).ah E B)) := by
  obtain ⟨a, ha⟩ := hs.name (by rw [hk]; rfl)
  obtain ⟨hin, hlen, hle⟩ := hm.sig _ _ ha
  obtain ⟨j, hj, hrow⟩ := row_at E B m hin
  have hlk := look_rel B m hin
  have hu := hm.used
  have hgl := hm.glen
  have hgl2 : ((E.G.map bav).length : Int) = E.G.length := by simp
  have hmin : (m.rels s.Name).length = Nat.min (((E.G.map bav).take (E.G.map bav).length).drop m.used.toNat).length (m.rels s.Name).length := by
    refine (Nat.min_eq_right ?_).symm
    simp only [List.length_drop, List.length_take, List.length_map, Nat.min_self]
    omega
  refine Tri.enter 46 Tryz.func83 rfl rfl rfl rfl fun Fr w0 => ?_
  repeat' (first
    | refine AW.seq ?_
    | (refine AW.region_at 0 ?_ <;> refine AL.d (AOp.box_ro rfl rfl) ?_ <;> refine AL.nil ?_)
    | (refine AW.da 1 ?_ <;> refine AQ.e ?_ <;> refine AQ.e ?_ <;> (first | refine AQ.p rfl AOp.fa ?_ | refine AQ.p rfl (AOp.fr 3) ?_) <;> (first | refine AQ.p rfl AOp.la ?_ | refine AQ.p rfl (AOp.ll 0) ?_ | refine AQ.p rfl (AOp.lw 0) ?_) <;> (first | refine AQ.p rfl AOp.fa ?_ | refine AQ.p rfl (AOp.fr 5) ?_) <;> (first | refine AQ.p rfl AOp.la ?_ | refine AQ.p rfl (AOp.ll 0) ?_ | refine AQ.p rfl (AOp.lw 0) ?_) <;> refine AQ.p rfl (AOp.lookS_hit (g := oslv) (ok := false) 3 29 hlk rfl rfl rfl (by kernel_rfl)) ?_ <;> refine AQ.e ?_ <;> refine AQ.nil ?_)
    | (refine AW.da 2 ?_ <;> refine AQ.e ?_ <;> refine AQ.e ?_ <;> (first | refine AQ.p rfl AOp.fa ?_ | refine AQ.p rfl (AOp.fr 4) ?_) <;> (first | refine AQ.p rfl AOp.la ?_ | refine AQ.p rfl (AOp.ll 0) ?_ | refine AQ.p rfl (AOp.lw 0) ?_) <;> refine AQ.p rfl AOp.ln ?_ <;> refine AQ.e ?_ <;> refine AQ.e ?_ <;> (first | refine AQ.p rfl AOp.fa ?_ | refine AQ.p rfl (AOp.fr 5) ?_) <;> (first | refine AQ.p rfl AOp.la ?_ | refine AQ.p rfl (AOp.ll 0) ?_ | refine AQ.p rfl (AOp.lw 0) ?_) <;> refine AQ.p rfl AOp.sb ?_ <;> refine AQ.e ?_ <;> refine AQ.p rfl AOp.ln ?_ <;> refine AQ.e ?_ <;> refine AQ.nil ?_)
    | (refine AW.region_at 3 ?_ <;> refine AL.d (AOp.iface rfl rfl (by kernel_rfl)) ?_ <;> refine AL.panic rfl rfl ?_)
    | (refine AW.draw_last_at 4 10 rfl (by kernel_rfl) (by kernel_rfl) (by kernel_rfl) (by kernel_rfl) ?_ <;> refine AQ.e ?_ <;> refine AQ.e ?_ <;> refine AQ.e ?_ <;> (first | refine AQ.p rfl AOp.fa ?_ | refine AQ.p rfl (AOp.fr 4) ?_) <;> (first | refine AQ.p rfl AOp.la ?_ | refine AQ.p rfl (AOp.ll 0) ?_ | refine AQ.p rfl (AOp.lw 0) ?_) <;> refine AQ.e ?_ <;> refine AQ.e ?_ <;> (first | refine AQ.p rfl AOp.fa ?_ | refine AQ.p rfl (AOp.fr 5) ?_) <;> (first | refine AQ.p rfl AOp.la ?_ | refine AQ.p rfl (AOp.ll 0) ?_ | refine AQ.p rfl (AOp.lw 0) ?_) <;> refine AQ.p rfl (AOp.cut (sz := 1) rfl rfl (by kernel_rfl) (all_map fun _ => rfl) (bndIs.some (n := m.used.toNat) rfl (by omega)) bndIs.none (by omega) (by omega)) ?_ <;> refine AQ.nil ?_ <;> refine AL.d (AOp.copy_sl (m := (m.rels s.Name).length) (e := 4) (c0 := .bool false) (bytes := 1) rfl hrow (by simp) rfl rfl (by kernel_rfl) (fun y hy => all_map (n := 1) (fun _ => rfl) y (List.mem_of_mem_take (List.mem_of_mem_drop hy))) (by rw [← List.map_take, ← List.map_drop]; exact ok_map fun _ => rfl) hmin) ?_ <;> refine AL.nil ?_)
    | (refine AW.region_at 5 ?_ <;> refine AL.e ?_ <;> refine AL.e ?_ <;> (first | refine AL.d AOp.fa ?_ | refine AL.d (AOp.fr 5) ?_) <;> (first | refine AL.d AOp.la ?_ | refine AL.d (AOp.ll 0) ?_ | refine AL.d (AOp.lw 0) ?_) <;> refine AL.e ?_ <;> refine AL.d AOp.ln ?_ <;> refine AL.d AOp.ad ?_ <;> refine AL.e ?_ <;> (first | refine AL.d AOp.fa ?_ | refine AL.d (AOp.fr 5) ?_) <;> refine AL.sl 0 ?_ <;> refine AL.nil ?_)
    | refine AW.cond_true rfl ?_
    | refine AW.cond_false rfl ?_
    | refine AW.block ?_
    | refine AW.endblk ?_
    | refine AW.skip ?_
    | refine AW.exit rfl ?_
    | refine AW.label ?_
    | refine AW.j (fun hb => ?_) (fun hb => ?_))
  all_goals first
    | (exfalso; simp only [decide_eq_true_eq, decide_eq_false_iff_not] at *; omega)
    | skip
  have hrv : (((E.G.map bav).take (E.G.map bav).length).drop m.used.toNat).take (m.rels s.Name).length ++ ((m.rels s.Name).map bav).drop (m.rels s.Name).length = ((E.G.drop m.used.toNat).take (m.rels s.Name).length).map bav := by
    have hd : ((m.rels s.Name).map bav).drop (m.rels s.Name).length = [] := List.drop_eq_nil_of_le (by simp)
    rw [List.take_length, hd, List.append_nil, ← List.map_drop, ← List.map_take]
  have e := ah_setrow E B m hm.nodup hj ((E.G.drop m.used.toNat).take (m.rels s.Name).length) (by simp; omega)
  rw [← hrv] at e
  refine AW.donev rfl ⟨rfl, ?_⟩
  refine (congrArg (fun l : AH => l.set 0 _) e).trans ?_
  rfl
end
end Go.Proofs.YtdedkpfbfklgbaaGreat
namespace Go.Proofs.YtdedkpfbfklgbaaGreat
open Go.RowKit Go.SX
set_option maxRecDepth 100000
set_option maxHeartbeats 4000000
set_option linter.unusedVariables false
set_option linter.unusedSimpArgs false

inductive Task
  | s (x : GStmt)
  | l (xs : List GStmt)
  | e (r : Int) (xs : List GStmt) (i : Nat)
  | t (xs : List GStmt) (k : Nat)
  | r (xs : List GStmt) (k j : Nat)
def MS.setR (m : MS) (r : Int) (v : Int) : MS := { m with regs := m.regs.set r.toNat v }
/-- From m the task comes to m'; some e: the run stops there with the error e. -/
inductive Ex (E : Env) : Task → MS → Option Int → MS → Prop
  | nil {m} : Ex E (.l []) m none m
  | stop {x xs m} (h : ¬ m.steps < E.fuel) : Ex E (.l (x :: xs)) m (some 7) m
  | bad {x xs m e m'} (h : m.steps < E.fuel) (h1 : Ex E (.s x) m.step (some e) m') : Ex E (.l (x :: xs)) m (some e) m'
  | cons {x xs m m1 o m2} (h : m.steps < E.fuel) (h1 : Ex E (.s x) m.step none m1) (h2 : Ex E (.l xs) m1 o m2) : Ex E (.l (x :: xs)) m o m2
  | prim {x m} (h : isPrim x.Kind) : Ex E (.s x) m none (prim E.n x m)
  | gbad {x m} (h : x.Kind = 12) (h1 : (E.G.length : Int) - m.used < (m.rels x.Name).length) : Ex E (.s x) m (some 2) m
  | gok {x m} (h : x.Kind = 12) (h1 : ¬ (E.G.length : Int) - m.used < (m.rels x.Name).length) : Ex E (.s x) m none (m.guess E.G x)
  | each {x m o m'} (h : x.Kind = 7) (h1 : Ex E (.e x.R x.Body 0) m o m') : Ex E (.s x) m o m'
  | eend {r xs m} {i : Nat} (h : ¬ (i : Int) < E.n) : Ex E (.e r xs i) m none m
  | ebad {r xs m e m'} {i : Nat} (h : (i : Int) < E.n) (h1 : Ex E (.l xs) (m.setR r i) (some e) m') : Ex E (.e r xs i) m (some e) m'
  | estep {r xs m m1 o m2} {i : Nat} (h : (i : Int) < E.n) (h1 : Ex E (.l xs) (m.setR r i) none m1) (h2 : Ex E (.e r xs (i + 1)) m1 o m2) : Ex E (.e r xs i) m o m2
  | cond {x m o m'} (h : x.Kind = 8) (h1 : Ex E (.l (if flagAt m.flags x.F = true then x.Body else x.Else)) m o m') : Ex E (.s x) m o m'
  | t0 {x m} (h : x.Kind = 9) (h1 : x.Body = []) : Ex E (.s x) m none m
  | t1 {x m o m'} (h : x.Kind = 9) (h1 : x.Body ≠ []) (h2 : Ex E (.t x.Body x.N.toNat) m o m') : Ex E (.s x) m o m'
  | tz {xs m o m'} (h1 : Ex E (.l xs) m o m') : Ex E (.t xs 0) m o m'
  | ts {xs k m o m'} (h1 : Ex E (.r xs k E.n.toNat) m o m') : Ex E (.t xs (k + 1)) m o m'
  | rz {xs k m} : Ex E (.r xs k 0) m none m
  | rbad {xs k j m e m'} (h1 : Ex E (.t xs k) m (some e) m') : Ex E (.r xs k (j + 1)) m (some e) m'
  | rstep {xs k j m m1 o m2} (h1 : Ex E (.t xs k) m none m1) (h2 : Ex E (.r xs k j) m1 o m2) : Ex E (.r xs k (j + 1)) m o m2
  | ubad {x m e m'} (h : x.Kind = 10) (h1 : Ex E (.l x.Body) m (some e) m') : Ex E (.s x) m (some e) m'
  | uend {x m m1} (h : x.Kind = 10) (h1 : Ex E (.l x.Body) m none m1) (h2 : flagAt m1.flags x.F = true) : Ex E (.s x) m none m1
  | ustop {x m m1} (h : x.Kind = 10) (h1 : Ex E (.l x.Body) m none m1) (h2 : flagAt m1.flags x.F = false) (h3 : ¬ m1.steps < E.fuel) : Ex E (.s x) m (some 7) m1
  | ustep {x m m1 o m2} (h : x.Kind = 10) (h1 : Ex E (.l x.Body) m none m1) (h2 : flagAt m1.flags x.F = false) (h3 : m1.steps < E.fuel) (h4 : Ex E (.s x) m1.step o m2) : Ex E (.s x) m o m2
def endV : Option Int → AEnd
  | none => .ret (.tup [])
  | some e => .pan (stopV e)
def Post (F R : Nat) (sig : ByteArray → Option Nat) (E : Env) (B : Blk) (T : Task) (m : MS) : AEnd → AH → Prop :=
  fun x h => ∃ o m', Ex E T m o m' ∧ MFit F R sig E B m' ∧ m.steps ≤ m'.steps ∧ h = m'.ah E B ∧ x = endV o
section
variable {F R : Nat} {sig : ByteArray → Option Nat} {E : Env} {B : Blk} {m : MS}
theorem MFit.step (hm : MFit F R sig E B m) (h : m.steps < E.fuel) : MFit F R sig E B m.step := { hm with steps := ⟨by have := hm.steps.1; show 0 ≤ m.steps + 1; omega, by show m.steps + 1 ≤ E.fuel; omega⟩ }
theorem MFit.setF (hm : MFit F R sig E B m) (f : Int) (b : Bool) : MFit F R sig E B (m.setF f b) := { hm with flen := by rw [← hm.flen]; simp [MS.setF] }
theorem MFit.setR (hm : MFit F R sig E B m) (r v : Int) (hv : 0 ≤ v ∧ v < E.n) : MFit F R sig E B (m.setR r v) := { hm with
  rlen := by rw [← hm.rlen]; simp [MS.setR]
  regs := fun x hx => by
    rcases List.mem_or_eq_of_mem_set hx with h | h
    · exact hm.regs x h
    · rw [h]; exact hv }
theorem MFit.upd (hm : MFit F R sig E B m) (k : ByteArray) (xs : List Bool) (hx : xs.length = (m.rels k).length) (u : Int) (hu : 0 ≤ u ∧ u ≤ E.G.length) : MFit F R sig E B { m with rels := upd m.rels k xs, used := u } := { hm with
  used := hu
  sig := fun k' a h => by
    obtain ⟨h1, h2, h3⟩ := hm.sig k' a h
    refine ⟨h1, ?_, h3⟩
    show ((Go.Proofs.YtdedkpfbfklgbaaGreat.upd m.rels k xs k').length : Int) = _
    by_cases e : k' = k
    · subst e; rw [upd_same, hx]; exact h2
    · rw [upd_ne _ _ e]; exact h2 }
theorem MFit.prim (hm : MFit F R sig E B m) (s : GStmt) (hs : Fit F R sig s) : MFit F R sig E B (prim E.n s m) := by
  unfold Go.Proofs.YtdedkpfbfklgbaaGreat.prim
  repeat' split
  all_goals first
    | exact hm.setF _ _
    | exact hm.upd _ _ (by simp) m.used hm.used
    | skip
  rename_i h
  obtain ⟨a, ha⟩ := hs.name (by rw [h]; rfl)
  have ha2 := (hs.frm (by rw [h]; rfl)).trans ha
  have h1 := (hm.sig _ _ ha).2.1
  have h2 := (hm.sig _ _ ha2).2.1
  exact hm.upd _ _ (by omega) m.used hm.used
theorem MFit.guess (hm : MFit F R sig E B m) (s : GStmt) (h : ¬ (E.G.length : Int) - m.used < (m.rels s.Name).length) : MFit F R sig E B (m.guess E.G s) := by
  have hu := hm.used
  exact hm.upd _ _ (by simp; omega) _ (by omega)
end
/-- The function of a kind. -/
def fnOf (k : Int) : FuncId :=
  if k = 0 then 68 else if k = 1 then 70 else if k = 2 then 71 else if k = 3 then 72 else if k = 4 then 73 else if k = 5 then 74 else if k = 6 then 75 else if k = 7 then 77 else if k = 8 then 78 else if k = 9 then 79 else if k = 10 then 80 else if k = 11 then 82 else if k = 12 then 83 else if k = 13 then 84 else 85
theorem find_run {k : Int} (h : 0 ≤ k ∧ k < 15) : ∃ j, mfind (.int .i64 k) runKV 0 = some (j, .fn (fnOf k) []) := by
  have : k = 0 ∨ k = 1 ∨ k = 2 ∨ k = 3 ∨ k = 4 ∨ k = 5 ∨ k = 6 ∨ k = 7 ∨ k = 8 ∨ k = 9 ∨ k = 10 ∨ k = 11 ∨ k = 12 ∨ k = 13 ∨ k = 14 := by omega
  rcases this with rfl | rfl | rfl | rfl | rfl | rfl | rfl | rfl | rfl | rfl | rfl | rfl | rfl | rfl | rfl <;> exact ⟨_, rfl⟩
end Go.Proofs.YtdedkpfbfklgbaaGreat
namespace Go.Proofs.YtdedkpfbfklgbaaGreat
open Go.RowKit Go.SX
set_option maxRecDepth 100000
set_option maxHeartbeats 4000000
set_option linter.unusedVariables false
set_option linter.unusedSimpArgs false

section
variable {C : Cx} {ds : List Deferred} {ks : List K} {af : AF} {ah : AH} {ops : Array Oper} {rest : List Oper}
theorem AL.callPost {F R : Nat} {sig : ByteArray → Option Nat} {E : Env} {B : Blk} {m : MS} {t : Task} {d : Option Tmp} {T : TypeId} {ps : String} {es : Array Edge} {f : FuncId} {y : Operand} {caps : List AV} {xs : Array Operand} {tys : Array TypeId} {args : List AV}
    (hy : aeval af y = some (.fn f caps)) (hx : aevals af xs.toList = some args) (h : Tri C.P f (args ++ caps) ah (Post F R sig E B t m)) (hd : okDst d C.n = true)
    (hk : ∀ m', Ex E t m none m' → MFit F R sig E B m' → m.steps ≤ m'.steps → AL C ds ks ops rest (put af d (.tup [])) (m'.ah E B)) (hp : ∀ e m', Ex E t m (some e) m' → MFit F R sig E B m' → m.steps ≤ m'.steps → APan C ds (stopV e) (m'.ah E B)) :
    AL C ds ks ops (⟨d, .call ⟨.value y, xs, tys⟩, T, ps, es, none⟩ :: rest) af ah := by
  refine AL.callQ hy hx h hd ?_ ?_
  · rintro v ah' ⟨o, m', hex, hfit, hle, rfl, hend⟩
    cases o with
    | none => cases hend; exact hk m' hex hfit hle
    | some e => cases hend
  · rintro v ah' ⟨o, m', hex, hfit, hle, rfl, hend⟩
    cases o with
    | none => cases hend
    | some e => cases hend; exact hp e m' hex hfit hle
theorem AL.callStop {E : Env} {B : Blk} {m : MS} {e : Int} {d : Option Tmp} {T : TypeId} {ps : String} {es : Array Edge} {f : FuncId} {y : Operand} {caps : List AV} {xs : Array Operand} {tys : Array TypeId} {args : List AV}
    (hy : aeval af y = some (.fn f caps)) (hx : aevals af xs.toList = some args) (h : Tri C.P f (args ++ caps) ah (fun x h => x = .pan (stopV e) ∧ h = m.ah E B)) (hd : okDst d C.n = true)
    (hp : APan C ds (stopV e) (m.ah E B)) : AL C ds ks ops (⟨d, .call ⟨.value y, xs, tys⟩, T, ps, es, none⟩ :: rest) af ah := by
  refine AL.callQ hy hx h hd ?_ ?_
  · rintro v ah' ⟨h1, _⟩; cases h1
  · rintro v ah' ⟨h1, rfl⟩; cases h1; exact hp
end
theorem SFit.fit {F R : Nat} {sig : ByteArray → Option Nat} {s : GStmt} (h : SFit F R sig s) : Fit F R sig s := by cases h; assumption
theorem SFit.body {F R : Nat} {sig : ByteArray → Option Nat} {s : GStmt} (h : SFit F R sig s) : ∀ x ∈ s.Body, SFit F R sig x := by cases h; assumption
theorem SFit.els {F R : Nat} {sig : ByteArray → Option Nat} {s : GStmt} (h : SFit F R sig s) : ∀ x ∈ s.Else, SFit F R sig x := by cases h; assumption
section
variable {F R : Nat} {sig : ByteArray → Option Nat} {E : Env} {B : Blk} {m : MS}
theorem mach_all (l : List GStmt) (hl : l.length ≤ 4611686018427387904) (hs : ∀ x ∈ l, SFit F R sig x)
    (ih : ∀ x ∈ l, ∀ m, MFit F R sig E B m → Tri Tryz.prog (fnOf x.Kind) [.ref B.mb 0, x.st] (m.ah E B) (Post F R sig E B (.s x) m))
    (m : MS) (hm : MFit F R sig E B m) : Tri Tryz.prog 31 [.ref B.mb 0, .sl (l.map GStmt.av)] (m.ah E B) (Post F R sig E B (.l l) m) := by
  refine Tri.enter 25 Tryz.func31 rfl rfl rfl rfl fun Fr w0 => ?_
  repeat' (first
    | refine AW.seq ?_
    | (refine AW.region_at 0 ?_ <;> refine AL.e ?_ <;> refine AL.d AOp.ln ?_ <;> refine AL.e ?_ <;> refine AL.nil ?_)
    | refine AW.cond_true rfl ?_
    | refine AW.cond_false rfl ?_
    | refine AW.block ?_
    | refine AW.endblk ?_
    | refine AW.skip ?_
    | refine AW.exit rfl ?_
    | refine AW.label ?_
    | refine AW.j (fun hb => ?_) (fun hb => ?_))
  refine AW.prune [0, 6, 7, 8] (AW.loop (fun k af h => ∃ (i : Nat) (u : MS), i ≤ l.length ∧ k = l.length - i ∧ af = [(0, .ref B.mb 0), (6, .sl (l.map GStmt.av)), (7, .int .i64 (l.map GStmt.av).length), (8, .int .i64 i)] ∧ h = u.ah E B ∧ MFit F R sig E B u ∧ m.steps ≤ u.steps ∧ ∀ o m', Ex E (.l (l.drop i)) u o m' → Ex E (.l l) m o m') l.length ⟨0, m, Nat.zero_le _, rfl, rfl, rfl, hm, Int.le_refl _, fun o m' h => h⟩ ?_)
  rintro k af h ⟨i, u, hi, rfl, rfl, rfl, hu, hle, hx⟩
  refine AW.seq ?_
  by_cases hlt : i < l.length
  · obtain ⟨x, hxg⟩ := get_lt hlt
    have hx' : (l.map GStmt.av)[((i : Nat) : Int).toNat]? = some x.st := GStmt.get hxg
    have hxm := List.mem_of_getElem? hxg
    rw [drop_cons hxg] at hx
    repeat' (first
      | refine AW.seq ?_
      | (refine AW.region_at 1 ?_ <;> refine AL.e ?_ <;> refine AL.nil ?_)
      | (refine AW.region_at 2 ?_ <;> refine AL.d (AOp.index_sl rfl rfl (by omega) hx' (by kernel_rfl) rfl) ?_ <;> refine AL.d AOp.la ?_ <;> refine AL.alloc_store (by kernel_rfl) rfl rfl rfl rfl ?_ <;> refine AL.nil ?_)
      | refine AW.cond_true rfl ?_
      | refine AW.cond_false rfl ?_
      | refine AW.block ?_
      | refine AW.endblk ?_
      | refine AW.skip ?_
      | refine AW.exit rfl ?_
      | refine AW.label ?_
      | refine AW.j (fun hb => ?_) (fun hb => ?_))
    all_goals try (exfalso; simp only [decide_eq_true_eq, decide_eq_false_iff_not, List.length_map] at *; omega)
    by_cases hst : u.steps < E.fuel
    · have h1 := mach_step_ok hu hst
      have h2 := ih x hxm u.step (hu.step hst)
      have hk : 0 ≤ x.Kind ∧ x.Kind < 15 := (hs x hxm).fit.kind
      obtain ⟨j, hj⟩ := find_run hk
      have h3 : u.step.steps = u.steps + 1 := rfl
      repeat' (first
        | refine AW.seq ?_
        | (refine AW.region_at 3 ?_ <;> refine AL.e ?_ <;> refine AL.d (AOp.call rfl rfl h1) ?_ <;> refine AL.nil ?_)
        | refine AW.cond_true rfl ?_
        | refine AW.cond_false rfl ?_
        | refine AW.block ?_
        | refine AW.endblk ?_
        | refine AW.skip ?_
        | refine AW.exit rfl ?_
        | refine AW.label ?_
        | refine AW.j (fun hb => ?_) (fun hb => ?_))
      repeat' (first
        | refine AW.seq ?_
        | (refine AW.draw_last_at 4 9 rfl (by kernel_rfl) (by kernel_rfl) (by kernel_rfl) (by kernel_rfl) ?_ <;> refine AQ.e ?_ <;> refine AQ.e ?_ <;> (first | refine AQ.p rfl AOp.fa ?_ | refine AQ.p rfl (AOp.fr 8) ?_) <;> (first | refine AQ.p rfl AOp.la ?_ | refine AQ.p rfl (AOp.ll 0) ?_ | refine AQ.p rfl (AOp.lw 0) ?_) <;> (first | refine AQ.p rfl AOp.fa ?_ | refine AQ.p rfl (AOp.fr 0) ?_) <;> (first | refine AQ.p rfl AOp.la ?_ | refine AQ.p rfl (AOp.ll 0) ?_ | refine AQ.p rfl (AOp.lw 0) ?_) <;> refine AQ.p rfl (AOp.lookup_hit (i := 4) (kd := .int .i64) (e := 120) (ok := false) rfl rfl rfl (by kernel_rfl) rfl rfl hj) ?_ <;> refine AQ.e ?_ <;> (first | refine AQ.p rfl AOp.la ?_ | refine AQ.p rfl (AOp.ll 0) ?_ | refine AQ.p rfl (AOp.lw 0) ?_) <;> refine AQ.nil ?_ <;> refine AL.callPost rfl rfl h2 rfl (fun m' hex hfit hle2 => ?_) (fun e m' hex hfit hle2 => APan.of ⟨_, m', hx _ _ (.bad hst hex), hfit, by omega, rfl, rfl⟩) <;> refine AL.nil ?_)
        | (refine AW.region_at 5 ?_ <;> refine AL.d AOp.ad ?_ <;> refine AL.e ?_ <;> refine AL.nil ?_)
        | refine AW.cond_true rfl ?_
        | refine AW.cond_false rfl ?_
        | refine AW.block ?_
        | refine AW.endblk ?_
        | refine AW.skip ?_
        | refine AW.exit rfl ?_
        | refine AW.label ?_
        | refine AW.j (fun hb => ?_) (fun hb => ?_))
      exact AW.again_keep (l.length - (i + 1)) [0, 6, 7, 8] (by omega) ⟨i + 1, m', hlt, rfl, rfl, rfl, hfit, by omega, fun o m2 h => hx o m2 (.cons hst hex h)⟩
    · have h1 := mach_step_bad hu hst
      repeat' (first
        | refine AW.seq ?_
        | (refine AW.region_at 3 ?_ <;> refine AL.e ?_ <;> exact AL.callStop rfl rfl h1 rfl (APan.of ⟨some 7, u, hx _ _ (.stop hst), hu, hle, rfl, rfl⟩) <;> refine AL.nil ?_)
        | refine AW.cond_true rfl ?_
        | refine AW.cond_false rfl ?_
        | refine AW.block ?_
        | refine AW.endblk ?_
        | refine AW.skip ?_
        | refine AW.exit rfl ?_
        | refine AW.label ?_
        | refine AW.j (fun hb => ?_) (fun hb => ?_))
  · rw [List.drop_eq_nil_of_le (by omega)] at hx
    repeat' (first
      | refine AW.seq ?_
      | (refine AW.region_at 1 ?_ <;> refine AL.e ?_ <;> refine AL.nil ?_)
      | refine AW.cond_true rfl ?_
      | refine AW.cond_false rfl ?_
      | refine AW.block ?_
      | refine AW.endblk ?_
      | refine AW.skip ?_
      | refine AW.exit rfl ?_
      | refine AW.label ?_
      | refine AW.j (fun hb => ?_) (fun hb => ?_))
    all_goals first
      | (exfalso; simp only [decide_eq_true_eq, decide_eq_false_iff_not, List.length_map] at *; omega)
      | exact AW.donev rfl ⟨none, u, hx _ _ .nil, hu, hle, rfl, rfl⟩
end
end Go.Proofs.YtdedkpfbfklgbaaGreat
namespace Go.Proofs.YtdedkpfbfklgbaaGreat
open Go.RowKit Go.SX
set_option maxRecDepth 100000
set_option maxHeartbeats 4000000
set_option linter.unusedVariables false
set_option linter.unusedSimpArgs false

section
variable {F R : Nat} {sig : ByteArray → Option Nat} {E : Env} {B : Blk}
/-- What is known of a list: running it. -/
def AllOk (F R : Nat) (sig : ByteArray → Option Nat) (E : Env) (B : Blk) (l : List GStmt) : Prop := ∀ m, MFit F R sig E B m → Tri Tryz.prog 31 [.ref B.mb 0, .sl (l.map GStmt.av)] (m.ah E B) (Post F R sig E B (.l l) m)
theorem mach_each (s : GStmt) (hs : Fit F R sig s) (hk : s.Kind = 7) (hb : AllOk F R sig E B s.Body) (m : MS) (hm : MFit F R sig E B m) :
    Tri Tryz.prog 77 [.ref B.mb 0, s.st] (m.ah E B) (Post F R sig E B (.s s) m) := by
  have hr := hs.r (by rw [hk]; rfl)
  have hn := hm.n
  refine Tri.enter 25 Tryz.func77 rfl rfl rfl rfl fun Fr w0 => ?_
  repeat' (first
    | refine AW.seq ?_
    | (refine AW.region_at 0 ?_ <;> refine AL.d (AOp.box_ro rfl rfl) ?_ <;> refine AL.nil ?_)
    | (refine AW.region_at 1 ?_ <;> refine AL.e ?_ <;> refine AL.e ?_ <;> (first | refine AL.d AOp.fa ?_ | refine AL.d (AOp.fr 0) ?_) <;> (first | refine AL.d AOp.la ?_ | refine AL.d (AOp.ll 0) ?_ | refine AL.d (AOp.lw 0) ?_) <;> refine AL.e ?_ <;> refine AL.nil ?_)
    | refine AW.cond_true rfl ?_
    | refine AW.cond_false rfl ?_
    | refine AW.block ?_
    | refine AW.endblk ?_
    | refine AW.skip ?_
    | refine AW.exit rfl ?_
    | refine AW.label ?_
    | refine AW.j (fun hb => ?_) (fun hb => ?_))
  refine AW.prune [0, 3, 8, 9] (AW.loop (fun k af h => ∃ (i : Nat) (u : MS), (i : Int) ≤ E.n ∧ k = E.n.toNat - i ∧ af = [(0, .ref B.mb 0), (3, .at s.st), (8, .int .i64 E.n), (9, .int .i64 i)] ∧ h = u.ah E B ∧ MFit F R sig E B u ∧ m.steps ≤ u.steps ∧ ∀ o m', Ex E (.e s.R s.Body i) u o m' → Ex E (.s s) m o m') E.n.toNat ⟨0, m, by omega, rfl, rfl, rfl, hm, Int.le_refl _, fun o m' h => .each hk h⟩ ?_)
  rintro k af h ⟨i, u, hi, rfl, rfl, rfl, hu, hle, hx⟩
  refine AW.seq ?_
  by_cases hlt : (i : Int) < E.n
  · have hrl := hu.rlen
    have h2 := hb (u.setR s.R i) (hu.setR _ _ ⟨by omega, hlt⟩)
    have h3 : (u.setR s.R i).steps = u.steps := rfl
    have hset : (u.ah E B).set 2 (.row B.rb ((u.regs.map iav).set s.R.toNat (.int .i64 i))) = (u.setR s.R i).ah E B := by
      have h : (u.regs.map iav).set s.R.toNat (.int .i64 i) = (u.regs.set s.R.toNat i).map iav := by rw [List.map_set]; rfl
      have h2 : (u.regs.set s.R.toNat i).length = u.regs.length := by simp
      simp only [MS.ah, MS.setR, MS.box, List.set_cons_succ, List.set_cons_zero, h, h2]
      rfl
    repeat' (first
      | refine AW.seq ?_
      | (refine AW.region_at 2 ?_ <;> refine AL.e ?_ <;> refine AL.nil ?_)
      | (refine AW.region_at 3 ?_ <;> refine AL.e ?_ <;> refine AL.e ?_ <;> refine AL.nil ?_)
      | (refine AW.draw_last_at 4 8 rfl (by kernel_rfl) (by kernel_rfl) (by kernel_rfl) (by kernel_rfl) ?_ <;> refine AQ.e ?_ <;> refine AQ.e ?_ <;> (first | refine AQ.p rfl AOp.fa ?_ | refine AQ.p rfl (AOp.fr 2) ?_) <;> (first | refine AQ.p rfl AOp.la ?_ | refine AQ.p rfl (AOp.ll 0) ?_ | refine AQ.p rfl (AOp.lw 0) ?_) <;> (first | refine AQ.p rfl AOp.fa ?_ | refine AQ.p rfl (AOp.fr 3) ?_) <;> (first | refine AQ.p rfl AOp.la ?_ | refine AQ.p rfl (AOp.ll 0) ?_ | refine AQ.p rfl (AOp.lw 0) ?_) <;> refine AQ.e ?_ <;> refine AQ.p rfl (AOp.index_osl rfl rfl (by omega) (by omega) (by kernel_rfl)) ?_ <;> refine AQ.nil ?_ <;> (first | (refine AL.store_cell 2 rfl rfl rfl (by simp; omega) rfl rfl (by kernel_rfl) ?_) | refine AL.sl 0 ?_) <;> refine AL.nil ?_)
      | refine AW.cond_true rfl ?_
      | refine AW.cond_false rfl ?_
      | refine AW.block ?_
      | refine AW.endblk ?_
      | refine AW.skip ?_
      | refine AW.exit rfl ?_
      | refine AW.label ?_
      | refine AW.j (fun hb => ?_) (fun hb => ?_))
    all_goals try (exfalso; simp only [decide_eq_true_eq, decide_eq_false_iff_not, List.length_map] at *; omega)
    refine AW.frame_eq rfl hset ?_
    repeat' (first
      | refine AW.seq ?_
      | (refine AW.region_at 5 ?_ <;> refine AL.e ?_ <;> (first | refine AL.d AOp.fa ?_ | refine AL.d (AOp.fr 12) ?_) <;> refine AL.d AOp.la ?_ <;> refine AL.callPost rfl rfl h2 rfl (fun m' hex hfit hle2 => ?_) (fun e m' hex hfit hle2 => APan.of ⟨_, m', hx _ _ (.ebad hlt hex), hfit, by omega, rfl, rfl⟩) <;> refine AL.nil ?_)
      | (refine AW.region_at 6 ?_ <;> refine AL.d AOp.ad ?_ <;> refine AL.e ?_ <;> refine AL.nil ?_)
      | refine AW.cond_true rfl ?_
      | refine AW.cond_false rfl ?_
      | refine AW.block ?_
      | refine AW.endblk ?_
      | refine AW.skip ?_
      | refine AW.exit rfl ?_
      | refine AW.label ?_
      | refine AW.j (fun hb => ?_) (fun hb => ?_))
    exact AW.again_keep (E.n.toNat - (i + 1)) [0, 3, 8, 9] (by omega) ⟨i + 1, m', by omega, rfl, rfl, rfl, hfit, by omega, fun o m2 h => hx o m2 (.estep hlt hex h)⟩
  · repeat' (first
      | refine AW.seq ?_
      | (refine AW.region_at 2 ?_ <;> refine AL.e ?_ <;> refine AL.nil ?_)
      | refine AW.cond_true rfl ?_
      | refine AW.cond_false rfl ?_
      | refine AW.block ?_
      | refine AW.endblk ?_
      | refine AW.skip ?_
      | refine AW.exit rfl ?_
      | refine AW.label ?_
      | refine AW.j (fun hb => ?_) (fun hb => ?_))
    all_goals first
      | (exfalso; simp only [decide_eq_true_eq, decide_eq_false_iff_not, List.length_map] at *; omega)
      | exact AW.donev rfl ⟨none, u, hx _ _ (.eend hlt), hu, hle, rfl, rfl⟩
theorem mach_if (s : GStmt) (hs : Fit F R sig s) (hk : s.Kind = 8) (hbd : AllOk F R sig E B s.Body) (he : AllOk F R sig E B s.Else) (m : MS) (hm : MFit F R sig E B m) :
    Tri Tryz.prog 78 [.ref B.mb 0, s.st] (m.ah E B) (Post F R sig E B (.s s) m) := by
  have hf := hs.f (by rw [hk]; rfl)
  have hfl := hm.flen
  have g0 := flag_get (fl := m.flags) (x := s.F) (by omega)
  have h1 := hbd m hm
  have h2 := he m hm
  refine Tri.enter 20 Tryz.func78 rfl rfl rfl rfl fun Fr w0 => ?_
  repeat' (first
    | refine AW.seq ?_
    | (refine AW.region_at 0 ?_ <;> refine AL.d (AOp.box_ro rfl rfl) ?_ <;> refine AL.nil ?_)
    | (refine AW.da 1 ?_ <;> refine AQ.e ?_ <;> refine AQ.e ?_ <;> (first | refine AQ.p rfl AOp.fa ?_ | refine AQ.p rfl (AOp.fr 1) ?_) <;> (first | refine AQ.p rfl (AOp.load_cell 1 rfl rfl g0 rfl (by kernel_rfl)) ?_ | refine AQ.p rfl AOp.la ?_ | refine AQ.p rfl (AOp.ll 0) ?_ | refine AQ.p rfl (AOp.lw 0) ?_) <;> (first | refine AQ.p rfl AOp.fa ?_ | refine AQ.p rfl (AOp.fr 1) ?_) <;> (first | refine AQ.p rfl (AOp.load_cell 1 rfl rfl g0 rfl (by kernel_rfl)) ?_ | refine AQ.p rfl AOp.la ?_ | refine AQ.p rfl (AOp.ll 0) ?_ | refine AQ.p rfl (AOp.lw 0) ?_) <;> refine AQ.p rfl (AOp.index_osl rfl rfl (by omega) (by omega) (by kernel_rfl)) ?_ <;> (first | refine AQ.p rfl (AOp.load_cell 1 rfl rfl g0 rfl (by kernel_rfl)) ?_ | refine AQ.p rfl AOp.la ?_ | refine AQ.p rfl (AOp.ll 0) ?_ | refine AQ.p rfl (AOp.lw 0) ?_) <;> refine AQ.nil ?_)
    | refine AW.cond_true rfl ?_
    | refine AW.cond_false rfl ?_
    | refine AW.block ?_
    | refine AW.endblk ?_
    | refine AW.skip ?_
    | refine AW.exit rfl ?_
    | refine AW.label ?_
    | refine AW.j (fun hb => ?_) (fun hb => ?_))
  · repeat' (first
      | refine AW.seq ?_
      | (refine AW.region_at 2 ?_ <;> refine AL.e ?_ <;> (first | refine AL.d AOp.fa ?_ | refine AL.d (AOp.fr 12) ?_) <;> refine AL.d AOp.la ?_ <;> refine AL.callPost rfl rfl h1 rfl (fun m' hex hfit hle2 => ?_) (fun e m' hex hfit hle2 => APan.of ⟨_, m', .cond hk (by rw [if_pos hb]; exact hex), hfit, hle2, rfl, rfl⟩) <;> refine AL.nil ?_)
      | refine AW.cond_true rfl ?_
      | refine AW.cond_false rfl ?_
      | refine AW.block ?_
      | refine AW.endblk ?_
      | refine AW.skip ?_
      | refine AW.exit rfl ?_
      | refine AW.label ?_
      | refine AW.j (fun hb => ?_) (fun hb => ?_))
    exact AW.donev rfl ⟨none, m', .cond hk (by rw [if_pos hb]; exact hex), hfit, hle2, rfl, rfl⟩
  · repeat' (first
      | refine AW.seq ?_
      | (refine AW.region_at 3 ?_ <;> refine AL.e ?_ <;> (first | refine AL.d AOp.fa ?_ | refine AL.d (AOp.fr 13) ?_) <;> refine AL.d AOp.la ?_ <;> refine AL.callPost rfl rfl h2 rfl (fun m' hex hfit hle2 => ?_) (fun e m' hex hfit hle2 => APan.of ⟨_, m', .cond hk (by rw [if_neg (by simp [hb])]; exact hex), hfit, hle2, rfl, rfl⟩) <;> refine AL.nil ?_)
      | refine AW.cond_true rfl ?_
      | refine AW.cond_false rfl ?_
      | refine AW.block ?_
      | refine AW.endblk ?_
      | refine AW.skip ?_
      | refine AW.exit rfl ?_
      | refine AW.label ?_
      | refine AW.j (fun hb => ?_) (fun hb => ?_))
    exact AW.donev rfl ⟨none, m', .cond hk (by rw [if_neg (by simp [hb])]; exact hex), hfit, hle2, rfl, rfl⟩
theorem mach_until (s : GStmt) (hs : Fit F R sig s) (hk : s.Kind = 10) (hbd : AllOk F R sig E B s.Body) (m : MS) (hm : MFit F R sig E B m) :
    Tri Tryz.prog 80 [.ref B.mb 0, s.st] (m.ah E B) (Post F R sig E B (.s s) m) := by
  have hf := hs.f (by rw [hk]; rfl)
  have h1 := hbd m hm
  have hfu := hm.fuel
  refine Tri.enter 23 Tryz.func80 rfl rfl rfl rfl fun Fr w0 => ?_
  repeat' (first
    | refine AW.seq ?_
    | (refine AW.region_at 0 ?_ <;> refine AL.d (AOp.box_ro rfl rfl) ?_ <;> refine AL.nil ?_)
    | (refine AW.region_at 1 ?_ <;> refine AL.e ?_ <;> (first | refine AL.d AOp.fa ?_ | refine AL.d (AOp.fr 12) ?_) <;> (first | refine AL.d AOp.la ?_ | refine AL.d (AOp.ll 0) ?_ | refine AL.d (AOp.lw 0) ?_) <;> refine AL.callPost rfl rfl h1 rfl (fun m' hex hfit hle2 => ?_) (fun e m' hex hfit hle2 => APan.of ⟨_, m', .ubad hk hex, hfit, hle2, rfl, rfl⟩) <;> refine AL.nil ?_)
    | refine AW.cond_true rfl ?_
    | refine AW.cond_false rfl ?_
    | refine AW.block ?_
    | refine AW.endblk ?_
    | refine AW.skip ?_
    | refine AW.exit rfl ?_
    | refine AW.label ?_
    | refine AW.j (fun hb => ?_) (fun hb => ?_))
  refine AW.prune [0, 3] (AW.loop (fun k af h => ∃ (v u : MS), k = (E.fuel - u.steps).toNat ∧ af = [(0, .ref B.mb 0), (3, .at s.st)] ∧ h = u.ah E B ∧ MFit F R sig E B u ∧ m.steps ≤ u.steps ∧ Ex E (.l s.Body) v none u ∧ ∀ o m2, Ex E (.s s) v o m2 → Ex E (.s s) m o m2) (E.fuel - m'.steps).toNat ⟨m, m', rfl, rfl, rfl, hfit, hle2, hex, fun o m2 h => h⟩ ?_)
  rintro k af h ⟨v, u, rfl, rfl, rfl, hu, hle, hex2, hx⟩
  refine AW.seq ?_
  have hfl := hu.flen
  have g0 := flag_get (fl := u.flags) (x := s.F) (by omega)
  have hus := hu.steps
  repeat' (first
    | refine AW.seq ?_
    | (refine AW.da 2 ?_ <;> refine AQ.e ?_ <;> refine AQ.e ?_ <;> (first | refine AQ.p rfl AOp.fa ?_ | refine AQ.p rfl (AOp.fr 1) ?_) <;> (first | refine AQ.p rfl (AOp.load_cell 1 rfl rfl g0 rfl (by kernel_rfl)) ?_ | refine AQ.p rfl AOp.la ?_ | refine AQ.p rfl (AOp.ll 0) ?_ | refine AQ.p rfl (AOp.lw 0) ?_) <;> (first | refine AQ.p rfl AOp.fa ?_ | refine AQ.p rfl (AOp.fr 1) ?_) <;> (first | refine AQ.p rfl (AOp.load_cell 1 rfl rfl g0 rfl (by kernel_rfl)) ?_ | refine AQ.p rfl AOp.la ?_ | refine AQ.p rfl (AOp.ll 0) ?_ | refine AQ.p rfl (AOp.lw 0) ?_) <;> refine AQ.p rfl (AOp.index_osl rfl rfl (by omega) (by omega) (by kernel_rfl)) ?_ <;> (first | refine AQ.p rfl (AOp.load_cell 1 rfl rfl g0 rfl (by kernel_rfl)) ?_ | refine AQ.p rfl AOp.la ?_ | refine AQ.p rfl (AOp.ll 0) ?_ | refine AQ.p rfl (AOp.lw 0) ?_) <;> refine AQ.e ?_ <;> refine AQ.nil ?_)
    | refine AW.cond_true rfl ?_
    | refine AW.cond_false rfl ?_
    | refine AW.block ?_
    | refine AW.endblk ?_
    | refine AW.skip ?_
    | refine AW.exit rfl ?_
    | refine AW.label ?_
    | refine AW.j (fun hb => ?_) (fun hb => ?_))
  · have hfg : flagAt u.flags s.F = false := by simpa using hb
    by_cases hst : u.steps < E.fuel
    · have h3 := mach_step_ok hu hst
      have h4 := hbd u.step (hu.step hst)
      have h5 : u.step.steps = u.steps + 1 := rfl
      repeat' (first
        | refine AW.seq ?_
        | (refine AW.region_at 3 ?_ <;> refine AL.e ?_ <;> refine AL.d (AOp.call rfl rfl h3) ?_ <;> refine AL.nil ?_)
        | refine AW.cond_true rfl ?_
        | refine AW.cond_false rfl ?_
        | refine AW.block ?_
        | refine AW.endblk ?_
        | refine AW.skip ?_
        | refine AW.exit rfl ?_
        | refine AW.label ?_
        | refine AW.j (fun hb => ?_) (fun hb => ?_))
      repeat' (first
        | refine AW.seq ?_
        | (refine AW.region_at 4 ?_ <;> refine AL.e ?_ <;> (first | refine AL.d AOp.fa ?_ | refine AL.d (AOp.fr 12) ?_) <;> refine AL.d AOp.la ?_ <;> refine AL.callPost rfl rfl h4 rfl (fun m'' hex' hfit' hle' => ?_) (fun e m'' hex' hfit' hle' => APan.of ⟨_, m'', hx _ _ (.ustep hk hex2 hfg hst (.ubad hk hex')), hfit', by omega, rfl, rfl⟩) <;> refine AL.nil ?_)
        | refine AW.cond_true rfl ?_
        | refine AW.cond_false rfl ?_
        | refine AW.block ?_
        | refine AW.endblk ?_
        | refine AW.skip ?_
        | refine AW.exit rfl ?_
        | refine AW.label ?_
        | refine AW.j (fun hb => ?_) (fun hb => ?_))
      have := hfit'.steps
      exact AW.again_keep (E.fuel - m''.steps).toNat [0, 3] (by omega) ⟨u.step, m'', rfl, rfl, rfl, hfit', by omega, hex', fun o m2 h => hx o m2 (.ustep hk hex2 hfg hst h)⟩
    · have h3 := mach_step_bad hu hst
      repeat' (first
        | refine AW.seq ?_
        | (refine AW.region_at 3 ?_ <;> refine AL.e ?_ <;> exact AL.callStop rfl rfl h3 rfl (APan.of ⟨some 7, u, hx _ _ (.ustop hk hex2 hfg hst), hu, hle, rfl, rfl⟩) <;> refine AL.nil ?_)
        | refine AW.cond_true rfl ?_
        | refine AW.cond_false rfl ?_
        | refine AW.block ?_
        | refine AW.endblk ?_
        | refine AW.skip ?_
        | refine AW.exit rfl ?_
        | refine AW.label ?_
        | refine AW.j (fun hb => ?_) (fun hb => ?_))
  · have hfg : flagAt u.flags s.F = true := by simpa using hb
    repeat' (first
      | refine AW.seq ?_
      | refine AW.cond_true rfl ?_
      | refine AW.cond_false rfl ?_
      | refine AW.block ?_
      | refine AW.endblk ?_
      | refine AW.skip ?_
      | refine AW.exit rfl ?_
      | refine AW.label ?_
      | refine AW.j (fun hb => ?_) (fun hb => ?_))
    exact AW.donev rfl ⟨none, u, hx _ _ (.uend hk hex2 hfg), hu, hle, rfl, rfl⟩
end
end Go.Proofs.YtdedkpfbfklgbaaGreat
namespace Go.Proofs.YtdedkpfbfklgbaaGreat
open Go.RowKit Go.SX
set_option maxRecDepth 100000
set_option maxHeartbeats 4000000
set_option linter.unusedVariables false
set_option linter.unusedSimpArgs false

section
variable {F R : Nat} {sig : ByteArray → Option Nat} {E : Env} {B : Blk}
/-- As Post, with more behind. -/
def PostB (F R : Nat) (sig : ByteArray → Option Nat) (E : Env) (B : Blk) (b : AH) (T : Task) (m : MS) : AEnd → AH → Prop := fun x h => ∃ h1, Post F R sig E B T m x h1 ∧ h = h1 ++ b
variable {C : Cx} {ds : List Deferred} {ks : List K} {af : AF} {ah : AH} {ops : Array Oper} {rest : List Oper}
theorem AL.callPostB {m : MS} {b : AH} {t : Task} {d : Option Tmp} {T : TypeId} {ps : String} {es : Array Edge} {f : FuncId} {y : Operand} {caps : List AV} {xs : Array Operand} {tys : Array TypeId} {args : List AV}
    (hy : aeval af y = some (.fn f caps)) (hx : aevals af xs.toList = some args) (h : Tri C.P f (args ++ caps) ah (PostB F R sig E B b t m)) (hd : okDst d C.n = true)
    (hk : ∀ m', Ex E t m none m' → MFit F R sig E B m' → m.steps ≤ m'.steps → AL C ds ks ops rest (put af d (.tup [])) (m'.ah E B ++ b)) (hp : ∀ e m', Ex E t m (some e) m' → MFit F R sig E B m' → m.steps ≤ m'.steps → APan C ds (stopV e) (m'.ah E B ++ b)) :
    AL C ds ks ops (⟨d, .call ⟨.value y, xs, tys⟩, T, ps, es, none⟩ :: rest) af ah := by
  refine AL.callQ hy hx h hd ?_ ?_
  · rintro v ah' ⟨_, ⟨o, m', hex, hfit, hle, rfl, hend⟩, rfl⟩
    cases o with
    | none => cases hend; exact hk m' hex hfit hle
    | some e => cases hend
  · rintro v ah' ⟨_, ⟨o, m', hex, hfit, hle, rfl, hend⟩, rfl⟩
    cases o with
    | none => cases hend
    | some e => cases hend; exact hp e m' hex hfit hle
def loopV (B : Blk) (s : GStmt) (bl : Nat) : AV := .fn 115 [.at (.ref B.mb 0), .at s.st, .ref bl 0]
theorem mach_loop (s : GStmt) (hbd : AllOk F R sig E B s.Body) (bl : Nat) : ∀ (k : Nat) (hk : k ≤ 12) (m : MS) (hm : MFit F R sig E B m),
    Tri Tryz.prog 115 [.int .i64 k, .at (.ref B.mb 0), .at s.st, .ref bl 0] (m.ah E B ++ [.box bl (loopV B s bl)]) (PostB F R sig E B [.box bl (loopV B s bl)] (.t s.Body k) m) := by
  intro k
  induction k with
  | zero =>
    intro hk m hm
    have h1 := (hbd m hm).behind [.box bl (loopV B s bl)]
    refine Tri.enter 22 Tryz.func115 rfl rfl rfl rfl fun Fr w0 => ?_
    repeat' (first
      | refine AW.seq ?_
      | (refine AW.region_at 0 ?_ <;> refine AL.e ?_ <;> refine AL.e ?_ <;> refine AL.nil ?_)
      | refine AW.cond_true rfl ?_
      | refine AW.cond_false rfl ?_
      | refine AW.block ?_
      | refine AW.endblk ?_
      | refine AW.skip ?_
      | refine AW.exit rfl ?_
      | refine AW.label ?_
      | refine AW.j (fun hb => ?_) (fun hb => ?_))
    · repeat' (first
        | refine AW.seq ?_
        | (refine AW.region_at 1 ?_ <;> refine AL.d AOp.la ?_ <;> (first | refine AL.d AOp.fa ?_ | refine AL.d (AOp.fr 12) ?_) <;> refine AL.d AOp.la ?_ <;> refine AL.callPostB rfl rfl h1 rfl (fun m' hex hfit hle2 => ?_) (fun e m' hex hfit hle2 => APan.of ⟨_, ⟨_, m', .tz hex, hfit, hle2, rfl, rfl⟩, rfl⟩) <;> refine AL.nil ?_)
        | refine AW.cond_true rfl ?_
        | refine AW.cond_false rfl ?_
        | refine AW.block ?_
        | refine AW.endblk ?_
        | refine AW.skip ?_
        | refine AW.exit rfl ?_
        | refine AW.label ?_
        | refine AW.j (fun hb => ?_) (fun hb => ?_))
      exact AW.retv rfl ⟨_, ⟨none, m', .tz hex, hfit, hle2, rfl, rfl⟩, rfl⟩
  | succ k ih =>
    intro hk m hm
    have hn := hm.n
    refine Tri.enter 22 Tryz.func115 rfl rfl rfl rfl fun Fr w0 => ?_
    repeat' (first
      | refine AW.seq ?_
      | (refine AW.region_at 0 ?_ <;> refine AL.e ?_ <;> refine AL.e ?_ <;> refine AL.nil ?_)
      | (refine AW.region_at 2 ?_ <;> (first | refine AL.d AOp.la ?_ | refine AL.d (AOp.ll 0) ?_ | refine AL.d (AOp.lw 0) ?_) <;> refine AL.e ?_ <;> (first | refine AL.d AOp.fa ?_ | refine AL.d (AOp.fr 0) ?_) <;> (first | refine AL.d AOp.la ?_ | refine AL.d (AOp.ll 0) ?_ | refine AL.d (AOp.lw 0) ?_) <;> refine AL.e ?_ <;> refine AL.nil ?_)
      | refine AW.cond_true rfl ?_
      | refine AW.cond_false rfl ?_
      | refine AW.block ?_
      | refine AW.endblk ?_
      | refine AW.skip ?_
      | refine AW.exit rfl ?_
      | refine AW.label ?_
      | refine AW.j (fun hb => ?_) (fun hb => ?_))
    all_goals try (exfalso; simp at hb; omega)
    refine AW.prune [0, 1, 2, 3, 14, 15] (AW.loop (fun c af h => ∃ (i : Nat) (u : MS), (i : Int) ≤ E.n ∧ c = E.n.toNat - i ∧ af = [(0, .int .i64 (k + 1 : Nat)), (1, .at (.ref B.mb 0)), (2, .at s.st), (3, .ref bl 0), (14, .int .i64 E.n), (15, .int .i64 i)] ∧ h = u.ah E B ++ [.box bl (loopV B s bl)] ∧ MFit F R sig E B u ∧ m.steps ≤ u.steps ∧ ∀ o m', Ex E (.r s.Body k (E.n.toNat - i)) u o m' → Ex E (.t s.Body (k + 1)) m o m') E.n.toNat ⟨0, m, by omega, rfl, rfl, rfl, hm, Int.le_refl _, fun o m' h => .ts h⟩ ?_)
    rintro c af h ⟨i, u, hi, rfl, rfl, rfl, hu, hle, hx⟩
    refine AW.seq ?_
    by_cases hlt : (i : Int) < E.n
    · have hbox : (u.ah E B ++ [.box bl (loopV B s bl)])[(u.ah E B).length]? = some (.box bl (loopV B s bl)) := by simp
      have h2 := ih (by omega) u hu
      rw [show (k : Int) = ((k + 1 : Nat) : Int) - 1 by omega] at h2
      rw [show E.n.toNat - i = (E.n.toNat - (i + 1)) + 1 by omega] at hx
      repeat' (first
        | refine AW.seq ?_
        | (refine AW.region_at 3 ?_ <;> refine AL.e ?_ <;> refine AL.nil ?_)
        | (refine AW.region_at 4 ?_ <;> (first | refine AL.d (AOp.load_leaf (u.ah E B).length rfl hbox rfl rfl (by kernel_rfl)) ?_ | refine AL.d AOp.la ?_) <;> refine AL.e ?_ <;> refine AL.d AOp.sb ?_ <;> refine AL.callPostB rfl rfl h2 rfl (fun m' hex hfit hle2 => ?_) (fun e m' hex hfit hle2 => APan.of ⟨_, ⟨_, m', hx _ _ (.rbad hex), hfit, by omega, rfl, rfl⟩, rfl⟩) <;> refine AL.nil ?_)
        | (refine AW.region_at 5 ?_ <;> refine AL.d AOp.ad ?_ <;> refine AL.e ?_ <;> refine AL.nil ?_)
        | refine AW.cond_true rfl ?_
        | refine AW.cond_false rfl ?_
        | refine AW.block ?_
        | refine AW.endblk ?_
        | refine AW.skip ?_
        | refine AW.exit rfl ?_
        | refine AW.label ?_
        | refine AW.j (fun hb => ?_) (fun hb => ?_))
      all_goals first
        | (exfalso; simp only [decide_eq_true_eq, decide_eq_false_iff_not, List.length_map] at *; omega)
        | exact AW.again_keep (E.n.toNat - (i + 1)) [0, 1, 2, 3, 14, 15] (by omega) ⟨i + 1, m', by omega, rfl, rfl, rfl, hfit, by omega, fun o m2 h => hx o m2 (.rstep hex h)⟩
    · rw [show E.n.toNat - i = 0 by omega] at hx
      repeat' (first
        | refine AW.seq ?_
        | (refine AW.region_at 3 ?_ <;> refine AL.e ?_ <;> refine AL.nil ?_)
        | refine AW.cond_true rfl ?_
        | refine AW.cond_false rfl ?_
        | refine AW.block ?_
        | refine AW.endblk ?_
        | refine AW.skip ?_
        | refine AW.exit rfl ?_
        | refine AW.label ?_
        | refine AW.j (fun hb => ?_) (fun hb => ?_))
      all_goals first
        | (exfalso; simp only [decide_eq_true_eq, decide_eq_false_iff_not, List.length_map] at *; omega)
        | exact AW.donev rfl ⟨_, ⟨none, u, hx _ _ .rz, hu, hle, rfl, rfl⟩, rfl⟩
theorem mach_times (s : GStmt) (hs : Fit F R sig s) (hk : s.Kind = 9) (hl : s.Body.length ≤ 4611686018427387904) (hbd : AllOk F R sig E B s.Body) (m : MS) (hm : MFit F R sig E B m) :
    Tri Tryz.prog 79 [.ref B.mb 0, s.st] (m.ah E B) (Post F R sig E B (.s s) m) := by
  have hN := hs.n
  have hlen : ((s.Body.map GStmt.av).length : Int) = s.Body.length := by simp
  refine Tri.enter 14 Tryz.func79 rfl rfl rfl rfl fun Fr w0 => ?_
  repeat' (first
    | refine AW.seq ?_
    | (refine AW.region_at 0 ?_ <;> refine AL.d (AOp.box_ro rfl rfl) ?_ <;> refine AL.d (AOp.box_ro rfl rfl) ?_ <;> refine AL.nil ?_)
    | (refine AW.region_at 1 ?_ <;> (first | refine AL.d AOp.fa ?_ | refine AL.d (AOp.fr 12) ?_) <;> refine AL.d AOp.la ?_ <;> refine AL.d AOp.ln ?_ <;> refine AL.e ?_ <;> refine AL.nil ?_)
    | refine AW.cond_true rfl ?_
    | refine AW.cond_false rfl ?_
    | refine AW.block ?_
    | refine AW.endblk ?_
    | refine AW.skip ?_
    | refine AW.exit rfl ?_
    | refine AW.label ?_
    | refine AW.j (fun hb => ?_) (fun hb => ?_))
  · have h0 : s.Body = [] := by
      have : (s.Body.length : Int) = 0 := by rw [← hlen]; simpa using hb
      exact List.length_eq_zero_iff.1 (by omega)
    exact AW.retv rfl ⟨none, m, .t0 hk h0, hm, Int.le_refl _, rfl, rfl⟩
  · have h0 : s.Body ≠ [] := by
      rintro e
      rw [e] at hb
      simp at hb
    repeat' (first
      | refine AW.seq ?_
      | (refine AW.region_at 2 ?_ <;> refine AL.alloc_z (.val .nilFunc) (by kernel_rfl) rfl rfl fun bl => ?_ <;> refine AL.nil ?_)
      | (refine AW.region_at 3 ?_ <;> refine AL.e ?_ <;> refine AL.sl 0 ?_ <;> refine AL.nil ?_)
      | refine AW.cond_true rfl ?_
      | refine AW.cond_false rfl ?_
      | refine AW.block ?_
      | refine AW.endblk ?_
      | refine AW.skip ?_
      | refine AW.exit rfl ?_
      | refine AW.label ?_
      | refine AW.j (fun hb => ?_) (fun hb => ?_))
    refine AW.perm (b := m.ah E B ++ [.box bl (loopV B s bl)]) (List.perm_append_comm (l₁ := [_])) ?_
    have hbox : (m.ah E B ++ [.box bl (loopV B s bl)])[(m.ah E B).length]? = some (.box bl (loopV B s bl)) := by simp
    have h2 := mach_loop s hbd bl s.N.toNat (by omega) m hm
    rw [show ((s.N.toNat : Nat) : Int) = s.N by omega] at h2
    repeat' (first
      | refine AW.seq ?_
      | (refine AW.region_at 4 ?_ <;> (first | refine AL.d (AOp.load_leaf (m.ah E B).length rfl hbox rfl rfl (by kernel_rfl)) ?_ | refine AL.d AOp.la ?_) <;> (first | refine AL.d AOp.fa ?_ | refine AL.d (AOp.fr 4) ?_) <;> (first | refine AL.d (AOp.load_leaf (m.ah E B).length rfl hbox rfl rfl (by kernel_rfl)) ?_ | refine AL.d AOp.la ?_) <;> refine AL.callPostB rfl rfl h2 rfl (fun m' hex hfit hle2 => ?_) (fun e m' hex hfit hle2 => APan.drop (List.sublist_append_left _ _) (APan.of ⟨_, m', .t1 hk h0 hex, hfit, hle2, rfl, rfl⟩)) <;> refine AL.nil ?_)
      | refine AW.cond_true rfl ?_
      | refine AW.cond_false rfl ?_
      | refine AW.block ?_
      | refine AW.endblk ?_
      | refine AW.skip ?_
      | refine AW.exit rfl ?_
      | refine AW.label ?_
      | refine AW.j (fun hb => ?_) (fun hb => ?_))
    exact AW.done_drop rfl (List.sublist_append_left _ _) ⟨none, m', .t1 hk h0 hex, hfit, hle2, rfl, rfl⟩
theorem prim_steps (n : Int) (s : GStmt) (m : MS) : (prim n s m).steps = m.steps := by
  have hif : ∀ (c : Prop) [Decidable c] (a b : MS), a.steps = m.steps → b.steps = m.steps → (if c then a else b).steps = m.steps := fun c _ a b h1 h2 => by split <;> assumption
  unfold prim
  exact hif _ _ _ rfl (hif _ _ _ rfl (hif _ _ _ rfl (hif _ _ _ rfl (hif _ _ _ rfl (hif _ _ _ rfl (hif _ _ _ rfl (hif _ _ _ rfl (hif _ _ _ rfl rfl))))))))
/-- A statement without parts, as a relation. -/
theorem Post.of_prim {m : MS} {s : GStmt} {f : FuncId} {args : List AV} (hm : MFit F R sig E B m) (hs : Fit F R sig s) (hp : isPrim s.Kind) (h : Tri Tryz.prog f args (m.ah E B) (D (.tup []) ((prim E.n s m).ah E B))) : Tri Tryz.prog f args (m.ah E B) (Post F R sig E B (.s s) m) :=
  h.mono fun x h' ⟨h1, h2⟩ => ⟨none, prim E.n s m, .prim hp, hm.prim s hs, by rw [prim_steps]; exact Int.le_refl _, h2, h1⟩
theorem mach_stmt (s : GStmt) (hok : s.Ok) (hs : SFit F R sig s) (hb : AllOk F R sig E B s.Body) (he : AllOk F R sig E B s.Else) (m : MS) (hm : MFit F R sig E B m) :
    Tri Tryz.prog (fnOf s.Kind) [.ref B.mb 0, s.st] (m.ah E B) (Post F R sig E B (.s s) m) := by
  have hf := hs.fit
  obtain ⟨hg, hb1, _, he1, _⟩ := hok
  have hl1 : s.Lit.At.length ≤ 4611686018427387904 := by have := hg.2.2.2.2.2.2.2.1.2.2.1; omega
  have hl2 : s.Regs.length ≤ 4611686018427387904 := by have := hg.2.2.2.2.2.2.2.2.1; omega
  have hk := hf.kind
  have hc : s.Kind = 0 ∨ s.Kind = 1 ∨ s.Kind = 2 ∨ s.Kind = 3 ∨ s.Kind = 4 ∨ s.Kind = 5 ∨ s.Kind = 6 ∨ s.Kind = 7 ∨ s.Kind = 8 ∨ s.Kind = 9 ∨ s.Kind = 10 ∨ s.Kind = 11 ∨ s.Kind = 12 ∨ s.Kind = 13 ∨ s.Kind = 14 := by omega
  rcases hc with h | h | h | h | h | h | h | h | h | h | h | h | h | h | h
  · rw [show fnOf s.Kind = 68 by rw [h]; rfl]; exact Post.of_prim hm hf (by unfold isPrim; omega) (mach_0 hm s hf h hl1)
  · rw [show fnOf s.Kind = 70 by rw [h]; rfl]; exact Post.of_prim hm hf (by unfold isPrim; omega) (mach_1 hm s hf h)
  · rw [show fnOf s.Kind = 71 by rw [h]; rfl]; exact Post.of_prim hm hf (by unfold isPrim; omega) (mach_2 hm s hf h)
  · rw [show fnOf s.Kind = 72 by rw [h]; rfl]; exact Post.of_prim hm hf (by unfold isPrim; omega) (mach_3 hm s hf h)
  · rw [show fnOf s.Kind = 73 by rw [h]; rfl]; exact Post.of_prim hm hf (by unfold isPrim; omega) (mach_4 hm s hf h)
  · rw [show fnOf s.Kind = 74 by rw [h]; rfl]; exact Post.of_prim hm hf (by unfold isPrim; omega) (mach_5 hm s hf h)
  · rw [show fnOf s.Kind = 75 by rw [h]; rfl]; exact Post.of_prim hm hf (by unfold isPrim; omega) (mach_6 hm s hf h hl2)
  · rw [show fnOf s.Kind = 77 by rw [h]; rfl]; exact mach_each s hf h hb m hm
  · rw [show fnOf s.Kind = 78 by rw [h]; rfl]; exact mach_if s hf h hb he m hm
  · rw [show fnOf s.Kind = 79 by rw [h]; rfl]; exact mach_times s hf h (by omega) hb m hm
  · rw [show fnOf s.Kind = 80 by rw [h]; rfl]; exact mach_until s hf h hb m hm
  · rw [show fnOf s.Kind = 82 by rw [h]; rfl]; exact Post.of_prim hm hf (by unfold isPrim; omega) (mach_11 hm s hf h)
  · rw [show fnOf s.Kind = 83 by rw [h]; rfl]
    by_cases hg : (E.G.length : Int) - m.used < (m.rels s.Name).length
    · exact (mach_guess_bad hm s hf h hg).mono fun x h' ⟨h1, h2⟩ => ⟨some 2, m, .gbad h hg, hm, Int.le_refl _, h2, h1⟩
    · exact (mach_guess_ok hm s hf h hg).mono fun x h' ⟨h1, h2⟩ => ⟨none, _, .gok h hg, hm.guess s hg, Int.le_refl _, h2, h1⟩
  · rw [show fnOf s.Kind = 84 by rw [h]; rfl]; exact Post.of_prim hm hf (by unfold isPrim; omega) (mach_13 hm s hf h)
  · rw [show fnOf s.Kind = 85 by rw [h]; rfl]; exact Post.of_prim hm hf (by unfold isPrim; omega) (mach_14 hm s hf h)
theorem mach_list : ∀ (n : Nat) (l : List GStmt), cntL l ≤ n → l.length ≤ 4611686018427387904 → (∀ x ∈ l, x.Ok) → (∀ x ∈ l, SFit F R sig x) → AllOk F R sig E B l := by
  intro n
  induction n using Nat.strongRecOn with
  | _ n ih =>
    intro l hn hl hok hs m hm
    refine mach_all l hl hs (fun x hx m hm => ?_) m hm
    have hc := cnt_mem hx
    have hcs := cntS_eq x
    have hxo := hok x hx
    have hxs := hs x hx
    obtain ⟨_, hb1, hb2, he1, he2⟩ := id hxo
    exact mach_stmt x hxo hxs (ih (cntL x.Body) (by omega) x.Body (Nat.le_refl _) (by omega) hb2 hxs.body) (ih (cntL x.Else) (by omega) x.Else (Nat.le_refl _) (by omega) he2 hxs.els) m hm
end
end Go.Proofs.YtdedkpfbfklgbaaGreat
namespace Go.Proofs.YtdedkpfbfklgbaaGreat
open Go.RowKit Go.SX
set_option maxRecDepth 100000
set_option maxHeartbeats 4000000
set_option linter.unusedVariables false
set_option linter.unusedSimpArgs false

theorem code_actions : Tri Tryz.prog 27 [] [] (fun x h => ∃ b g, x = .ret (.map b) ∧ h = [.map b runKV g]) := by
  refine Tri.enter 3 Tryz.func27 rfl rfl rfl rfl fun Fr w0 => ?_
  repeat' (first
    | refine AW.seq ?_
    | (refine AW.region_at 0 ?_ <;> refine AL.e ?_ <;> refine AL.nil ?_)
    | (refine AW.region_at 1 ?_ <;> refine AL.makeMap rfl fun b => ?_ <;> refine AL.insert (i := 0) (kd := .int .i64) (e := 120) rfl rfl rfl rfl (by kernel_rfl) rfl rfl ?_ <;> refine AL.insert (i := 0) (kd := .int .i64) (e := 120) rfl rfl rfl rfl (by kernel_rfl) rfl rfl ?_ <;> refine AL.insert (i := 0) (kd := .int .i64) (e := 120) rfl rfl rfl rfl (by kernel_rfl) rfl rfl ?_ <;> refine AL.insert (i := 0) (kd := .int .i64) (e := 120) rfl rfl rfl rfl (by kernel_rfl) rfl rfl ?_ <;> refine AL.insert (i := 0) (kd := .int .i64) (e := 120) rfl rfl rfl rfl (by kernel_rfl) rfl rfl ?_ <;> refine AL.insert (i := 0) (kd := .int .i64) (e := 120) rfl rfl rfl rfl (by kernel_rfl) rfl rfl ?_ <;> refine AL.insert (i := 0) (kd := .int .i64) (e := 120) rfl rfl rfl rfl (by kernel_rfl) rfl rfl ?_ <;> refine AL.insert (i := 0) (kd := .int .i64) (e := 120) rfl rfl rfl rfl (by kernel_rfl) rfl rfl ?_ <;> refine AL.insert (i := 0) (kd := .int .i64) (e := 120) rfl rfl rfl rfl (by kernel_rfl) rfl rfl ?_ <;> refine AL.insert (i := 0) (kd := .int .i64) (e := 120) rfl rfl rfl rfl (by kernel_rfl) rfl rfl ?_ <;> refine AL.insert (i := 0) (kd := .int .i64) (e := 120) rfl rfl rfl rfl (by kernel_rfl) rfl rfl ?_ <;> refine AL.insert (i := 0) (kd := .int .i64) (e := 120) rfl rfl rfl rfl (by kernel_rfl) rfl rfl ?_ <;> refine AL.insert (i := 0) (kd := .int .i64) (e := 120) rfl rfl rfl rfl (by kernel_rfl) rfl rfl ?_ <;> refine AL.insert (i := 0) (kd := .int .i64) (e := 120) rfl rfl rfl rfl (by kernel_rfl) rfl rfl ?_ <;> refine AL.insert (i := 0) (kd := .int .i64) (e := 120) rfl rfl rfl rfl (by kernel_rfl) rfl rfl ?_ <;> refine AL.e ?_ <;> refine AL.e ?_ <;> refine AL.nil ?_)
    | refine AW.cond_true rfl ?_
    | refine AW.cond_false rfl ?_
    | refine AW.block ?_
    | refine AW.endblk ?_
    | refine AW.skip ?_
    | refine AW.exit rfl ?_
    | refine AW.label ?_
    | refine AW.j (fun hb => ?_) (fun hb => ?_))
  first
    | exact AW.retv rfl ⟨_, _, rfl, rfl⟩
    | exact AW.donev rfl ⟨_, _, rfl, rfl⟩
end Go.Proofs.YtdedkpfbfklgbaaGreat
namespace Go.Proofs.YtdedkpfbfklgbaaGreat
open Go.RowKit Go.SX
set_option maxRecDepth 100000
set_option maxHeartbeats 4000000
set_option linter.unusedVariables false
set_option linter.unusedSimpArgs false

def resAH (r1 r2 r3 r4 : Nat) (b : Bool) (n g e : Int) : AH := [.box r1 (.bool b), .box r2 (.int .i64 n), .box r3 (.int .i64 g), .box r4 (.int .i64 e)]
theorem run_panic (r1 r2 r3 r4 : Nat) (b : Bool) (n g e : Int) (x : Int) : TriD Tryz.prog 30 [.ref r1 0, .ref r2 0, .ref r3 0, .ref r4 0] (resAH r1 r2 r3 r4 b n g e)
    (.panicking [{ v := .iface 75 (.int .i64 x), recovered := false }]) (fun u' h => u' = (recMode (.panicking [{ v := .iface 75 (.int .i64 x), recovered := false }])).2 ∧ h = resAH r1 r2 r3 r4 false 0 0 x) := by
  -- refine Tri.enter 13 Tryz.func30 rfl rfl rfl rfl fun Fr w0 => ?_
  refine TriD.enterR 13 Tryz.func30 rfl rfl rfl rfl rfl rfl rfl rfl rfl fun Fr w0 => ?_
  (refine AL.d (AOp.assert_yes (v := .int .i64 x) rfl (by kernel_rfl) (fun S w => mk_int)) ?_) <;> (refine AL.e ?_) <;> (refine AL.e ?_) <;> (refine AL.e ?_) <;> (refine AL.e ?_) <;> (refine AL.e ?_) <;> (refine AL.nil ?_)
  repeat' (first
    | refine AW.seq ?_
    | (refine AW.region_at 1 ?_ <;> refine AL.e ?_ <;> refine AL.nil ?_)
    | (refine AW.region_at 2 ?_ <;> refine AL.e ?_ <;> (first | refine AL.sl 0 ?_ | refine AL.sl 1 ?_ | refine AL.sl 2 ?_ | refine AL.sl 3 ?_) <;> (first | refine AL.sl 0 ?_ | refine AL.sl 1 ?_ | refine AL.sl 2 ?_ | refine AL.sl 3 ?_) <;> (first | refine AL.sl 0 ?_ | refine AL.sl 1 ?_ | refine AL.sl 2 ?_ | refine AL.sl 3 ?_) <;> (first | refine AL.sl 0 ?_ | refine AL.sl 1 ?_ | refine AL.sl 2 ?_ | refine AL.sl 3 ?_) <;> refine AL.nil ?_)
    | refine AW.cond_true rfl ?_
    | refine AW.cond_false rfl ?_
    | refine AW.block ?_
    | refine AW.endblk ?_
    | refine AW.skip ?_
    | refine AW.exit rfl ?_
    | refine AW.label ?_
    | refine AW.j (fun hb => ?_) (fun hb => ?_))
  exact AW.donev rfl ⟨⟨_, rfl⟩, rfl⟩
theorem run_return (r1 r2 r3 r4 : Nat) (b : Bool) (n g e : Int) : TriD Tryz.prog 30 [.ref r1 0, .ref r2 0, .ref r3 0, .ref r4 0] (resAH r1 r2 r3 r4 b n g e)
    .returning (fun u' h => u' = .returning ∧ h = resAH r1 r2 r3 r4 b n g e) := by
  -- refine Tri.enter 13 Tryz.func30 rfl rfl rfl rfl fun Fr w0 => ?_
  refine TriD.enterR 13 Tryz.func30 rfl rfl rfl rfl rfl rfl rfl rfl rfl fun Fr w0 => ?_
  (refine AL.d (AOp.assert_nil (z := .int .i64 0) (zv := .int .i64 0) rfl (by kernel_rfl) (by kernel_rfl) (fun S w => mk_int)) ?_) <;> (refine AL.e ?_) <;> (refine AL.e ?_) <;> (refine AL.e ?_) <;> (refine AL.e ?_) <;> (refine AL.e ?_) <;> (refine AL.nil ?_)
  repeat' (first
    | refine AW.seq ?_
    | (refine AW.region_at 1 ?_ <;> refine AL.e ?_ <;> refine AL.nil ?_)
    | (refine AW.region_at 2 ?_ <;> refine AL.e ?_ <;> (first | refine AL.sl 0 ?_ | refine AL.sl 1 ?_ | refine AL.sl 2 ?_ | refine AL.sl 3 ?_) <;> (first | refine AL.sl 0 ?_ | refine AL.sl 1 ?_ | refine AL.sl 2 ?_ | refine AL.sl 3 ?_) <;> (first | refine AL.sl 0 ?_ | refine AL.sl 1 ?_ | refine AL.sl 2 ?_ | refine AL.sl 3 ?_) <;> (first | refine AL.sl 0 ?_ | refine AL.sl 1 ?_ | refine AL.sl 2 ?_ | refine AL.sl 3 ?_) <;> refine AL.nil ?_)
    | refine AW.cond_true rfl ?_
    | refine AW.cond_false rfl ?_
    | refine AW.block ?_
    | refine AW.endblk ?_
    | refine AW.skip ?_
    | refine AW.exit rfl ?_
    | refine AW.label ?_
    | refine AW.j (fun hb => ?_) (fun hb => ?_))
  exact AW.donev rfl ⟨⟨_, rfl⟩, rfl⟩
end Go.Proofs.YtdedkpfbfklgbaaGreat
namespace Go.Proofs.YtdedkpfbfklgbaaGreat
open Go.RowKit Go.SX
set_option maxRecDepth 100000
set_option maxHeartbeats 4000000
set_option linter.unusedVariables false
set_option linter.unusedSimpArgs false

def tabGo (n : Int) : List (List Int) → List Bool → List Bool
  | [], xs => xs
  | t :: ts, xs => tabGo n ts (xs.set (rankR n t).1.toNat true)
def tableR (s : GStr) (k : ByteArray) (ar : Int) : List Bool :=
  match s.Rels[(findI s k ar).toNat]? with
  | some r => tabGo s.Size r.Tuples (List.replicate (powerR s.Size r.Arity).1.toNat false)
  | none => []
def initR (s : GStr) (st : Chk) (k : ByteArray) : List Bool :=
  match lookA st.A k with
  | some a => List.replicate (powerR s.Size a).1.toNat false
  | none => match lookA st.S k with
    | some a => tableR s k a
    | none => []
def m0 (c : GCode) (s : GStr) : MS := ⟨List.replicate c.Flags.toNat false, List.replicate c.Regs.toNat 0, initR s (checkedP c), 0, 0⟩
structure RunOk (c : GCode) (s : GStr) (fuel : Int) : Prop where
  bad : (checkedP c).bad = false
  valid : validStr s = true
  found : ∀ p ∈ (checkedP c).S, 0 ≤ findI s p.1 p.2
  fuel : 0 ≤ fuel ∧ fuel ≤ 10000000
  size : ∀ a ∈ c.Arrays, (powerR s.Size a.Arity).2 = 0
inductive RunR (c : GCode) (s : GStr) (G : List Bool) (fuel : Int) : Bool → Int → Int → Int → Prop
  | form (h : (checkedP c).bad = true ∨ validStr s = false) : RunR c s G fuel false 0 0 1
  | name (h1 : (checkedP c).bad = false) (h2 : validStr s = true) (p : ByteArray × Int) (hp : p ∈ (checkedP c).S) (h : findI s p.1 p.2 < 0) : RunR c s G fuel false 0 0 4
  | arg (h1 : (checkedP c).bad = false) (h2 : validStr s = true) (h3 : ∀ p ∈ (checkedP c).S, 0 ≤ findI s p.1 p.2) (h : fuel < 0 ∨ fuel > 10000000) : RunR c s G fuel false 0 0 2
  | size (h1 : (checkedP c).bad = false) (h2 : validStr s = true) (h3 : ∀ p ∈ (checkedP c).S, 0 ≤ findI s p.1 p.2) (h4 : 0 ≤ fuel ∧ fuel ≤ 10000000) (a : GSym) (ha : a ∈ c.Arrays) (h : (powerR s.Size a.Arity).2 ≠ 0) : RunR c s G fuel false 0 0 5
  | ok (h : RunOk c s fuel) {m : MS} (hx : Ex ⟨s.Size, G, fuel⟩ (.l c.Body) (m0 c s) none m) : RunR c s G fuel (flagAt m.flags 0) m.steps m.used 0
  | stop (h : RunOk c s fuel) {e : Int} {m : MS} (hx : Ex ⟨s.Size, G, fuel⟩ (.l c.Body) (m0 c s) (some e) m) : RunR c s G fuel false 0 0 e
/-- What the check of a program yields. -/
structure ChkOk (c : GCode) : Prop where
  flags : 1 ≤ c.Flags ∧ c.Flags ≤ 1000
  regs : 0 ≤ c.Regs ∧ c.Regs ≤ 60
  keys : ((checkedP c).S.map (·.1)).Nodup
  arrs : (c.Arrays.map (·.Name)).Nodup
  apart : ∀ a ∈ c.Arrays, a.Name ∉ (checkedP c).S.map (·.1)
  look : ∀ a ∈ c.Arrays, lookA (checkedP c).A a.Name = some a.Arity
  only : ∀ k n, lookA (checkedP c).A k = some n → ∃ a ∈ c.Arrays, a.Name = k ∧ a.Arity = n
  ar : ∀ a ∈ c.Arrays, 0 ≤ a.Arity ∧ a.Arity ≤ 12
  sar : ∀ p ∈ (checkedP c).S, 0 ≤ p.2 ∧ p.2 ≤ 12
  body : ∀ x ∈ c.Body, SFit c.Flags.toNat c.Regs.toNat (fun k => match lookA (checkedP c).A k with | some a => some a.toNat | none => (lookA (checkedP c).S k).map Int.toNat) x
end Go.Proofs.YtdedkpfbfklgbaaGreat
namespace Go.Proofs.YtdedkpfbfklgbaaGreat
open Go.RowKit Go.SX
set_option maxRecDepth 100000
set_option maxHeartbeats 4000000
set_option linter.unusedVariables false
set_option linter.unusedSimpArgs false

def Inv (st : Chk) : Prop := (st.S.map (·.1)).Nodup ∧ (∀ k ∈ st.S.map (·.1), lookA st.A k = none) ∧ (st.bad = false → ∀ p ∈ st.S, 0 ≤ p.2 ∧ p.2 ≤ 12)
structure Ext (a b : Chk) : Prop where
  c : b.c = a.c
  A : b.A = a.A
  bad : b.bad = false → a.bad = false
  inv : Inv a → Inv b
  look : b.bad = false → ∀ k n, lookA a.S k = some n → lookA b.S k = some n
theorem Ext.refl (a : Chk) : Ext a a := ⟨rfl, rfl, id, id, fun _ _ _ h => h⟩
theorem Ext.trans {a b c : Chk} (h : Ext a b) (k : Ext b c) : Ext a c := ⟨k.c.trans h.c, k.A.trans h.A, fun e => h.bad (k.bad e), fun e => k.inv (h.inv e), fun e x n hx => k.look e x n (h.look (k.bad e) x n hx)⟩
theorem ext_need (st : Chk) (x : Bool) : Ext st (st.need x) := ⟨rfl, rfl, fun h => by simp [Chk.need] at h; exact h.1, fun ⟨h1, h2, h3⟩ => ⟨h1, h2, fun h => h3 (by simp [Chk.need] at h; exact h.1)⟩, fun _ _ _ h => h⟩
theorem need_ok {st : Chk} {x : Bool} (h : (st.need x).bad = false) : x = true := by simp [Chk.need] at h; exact h.2
theorem ext_flag (st : Chk) (f : Int) : Ext st (st.flag f) := ext_need _ _
theorem ext_regs : ∀ (l : List Int) (st : Chk), Ext st (st.regs l)
  | [], st => Ext.refl st
  | r :: l, st => (ext_need st _).trans (ext_regs l _)
theorem regs_ok : ∀ (l : List Int) (st : Chk), (st.regs l).bad = false → ∀ x ∈ l, 0 ≤ x ∧ x < st.c.Regs
  | [], st, _, x, h => by cases h
  | r :: l, st, hb, x, h => by
    rw [Chk.regs] at hb
    have h1 := need_ok ((ext_regs l _).bad hb)
    simp only [Bool.and_eq_true, decide_eq_true_eq] at h1
    rcases List.mem_cons.1 h with rfl | h
    · exact h1
    · exact regs_ok l _ hb x h
theorem keys_setA {A : List (ByteArray × Int)} {k : ByteArray} {v : Int} : ∀ x, x ∈ (setA A k v).map (·.1) ↔ x = k ∨ x ∈ A.map (·.1) := by
  induction A with
  | nil => intro x; simp [setA]
  | cons p A ih =>
    obtain ⟨k', w⟩ := p
    intro x
    rw [setA]
    by_cases h : k = k'
    · subst h; simp
    · rw [if_neg h]
      simp only [List.map_cons, List.mem_cons, ih]
      constructor
      · rintro (h | h | h) <;> simp [h]
      · rintro (h | h | h) <;> simp [h]
theorem nodup_setA {A : List (ByteArray × Int)} {k : ByteArray} {v : Int} (h : (A.map (·.1)).Nodup) : ((setA A k v).map (·.1)).Nodup := by
  induction A with
  | nil => simp [setA]
  | cons p A ih =>
    obtain ⟨k', w⟩ := p
    simp only [List.map_cons, List.nodup_cons] at h
    rw [setA]
    by_cases e : k = k'
    · subst e; simpa using h
    · rw [if_neg e]
      simp only [List.map_cons, List.nodup_cons]
      refine ⟨fun hm => ?_, ih h.2⟩
      rcases (keys_setA _).1 hm with h1 | h1
      · exact e h1.symm
      · exact h.1 h1
theorem mem_setA {A : List (ByteArray × Int)} {k : ByteArray} {v : Int} : ∀ p ∈ setA A k v, p = (k, v) ∨ p ∈ A := by
  induction A with
  | nil => intro p h; simpa [setA] using h
  | cons q A ih =>
    obtain ⟨k', w⟩ := q
    intro p h
    rw [setA] at h
    by_cases e : k = k'
    · rw [if_pos e] at h
      rcases List.mem_cons.1 h with h | h
      · exact .inl h
      · exact .inr (List.mem_cons_of_mem _ h)
    · rw [if_neg e] at h
      rcases List.mem_cons.1 h with h | h
      · exact .inr (by simp [h])
      · rcases ih p h with h | h
        · exact .inl h
        · exact .inr (List.mem_cons_of_mem _ h)
theorem look_setA {A : List (ByteArray × Int)} {k : ByteArray} {v : Int} (x : ByteArray) : lookA (setA A k v) x = if x = k then some v else lookA A x := by
  induction A with
  | nil => simp only [setA, lookA]
  | cons q A ih =>
    obtain ⟨k', w⟩ := q
    rw [setA]
    by_cases e : k = k'
    · subst e
      simp only [if_pos, lookA]
      by_cases h : x = k <;> simp [h]
    · rw [if_neg e]
      simp only [lookA, ih]
      by_cases h : x = k
      · subst h; simp [e]
      · simp [h]
def sigS (A S : List (ByteArray × Int)) (k : ByteArray) : Option Nat := match lookA A k with | some a => some a.toNat | none => (lookA S k).map Int.toNat
/-- What a literal is checked for. -/
theorem lit_ext (st : Chk) (l : GLit) : Ext st (st.lit l) := by
  unfold Chk.lit
  simp only
  split
  · exact (ext_regs _ _).trans (ext_need _ _)
  · have h1 := (ext_regs l.At st).trans (ext_need (st.regs l.At) (decide (l.Kind = 0) && nameB l.Name && decide (l.At.length ≤ 12)))
    generalize hs2 : (st.regs l.At).need (decide (l.Kind = 0) && nameB l.Name && decide (l.At.length ≤ 12)) = s2 at h1 ⊢
    split
    · exact h1.trans (ext_need _ _)
    · rename_i hA
      have h2 := h1.trans (ext_need s2 (match lookA s2.S l.Name with | none => true | some n => decide (n = l.At.length)))
      refine ⟨h2.c, h2.A, h2.bad, fun hi => ?_, fun hb k n hk => ?_⟩
      · obtain ⟨g1, g2, g3⟩ := h2.inv hi
        refine ⟨nodup_setA g1, fun k hk => ?_, fun hb p hp => ?_⟩
        · rcases (keys_setA _).1 hk with h | h
          · subst h; exact hA
          · exact g2 k h
        · rcases mem_setA p hp with h | h
          · subst h
            have h3 : s2.bad = false := (ext_need s2 _).bad hb
            rw [← hs2] at h3
            have h4 := need_ok h3
            simp only [Bool.and_eq_true, decide_eq_true_eq] at h4
            exact ⟨by show (0 : Int) ≤ (l.At.length : Int); omega, by show (l.At.length : Int) ≤ 12; omega⟩
          · exact g3 hb p h
      · have h3 := h2.look hb k n hk
        show lookA (setA _ _ _) k = _
        rw [look_setA]
        by_cases e : k = l.Name
        · rw [if_pos e]
          subst e
          have h4 := need_ok hb
          have h5 : lookA s2.S l.Name = some n := h3
          rw [h5] at h4
          simp only [decide_eq_true_eq] at h4
          rw [h4]
        · rw [if_neg e]; exact h3
theorem lit_ok (st : Chk) (l : GLit) (hb : (st.lit l).bad = false) : (∀ x ∈ l.At, 0 ≤ x ∧ x < st.c.Regs) ∧ (if l.Kind = 1 ∨ l.Kind = 2 then l.At.length = 2 else l.Kind = 0 ∧ sigS (st.lit l).A (st.lit l).S l.Name = some l.At.length) := by
  unfold Chk.lit at hb ⊢
  simp only at hb ⊢
  by_cases hk : l.Kind = 1 ∨ l.Kind = 2
  · simp only [if_pos hk] at hb ⊢
    have h1 := need_ok hb
    simp only [Bool.and_eq_true, decide_eq_true_eq] at h1
    exact ⟨regs_ok _ _ ((ext_need _ _).bad hb), h1.2⟩
  · simp only [if_neg hk] at hb ⊢
    generalize hs2 : (st.regs l.At).need (decide (l.Kind = 0) && nameB l.Name && decide (l.At.length ≤ 12)) = s2 at hb ⊢
    have key : s2.bad = false → (∀ x ∈ l.At, 0 ≤ x ∧ x < st.c.Regs) ∧ l.Kind = 0 := by
      intro h
      rw [← hs2] at h
      have h4 := need_ok h
      simp only [Bool.and_eq_true, decide_eq_true_eq] at h4
      exact ⟨regs_ok _ _ ((ext_need _ _).bad h), h4.1.1⟩
    cases hA : lookA s2.A l.Name with
    | some n =>
      rw [hA] at hb
      simp only at hb ⊢
      have h1 := need_ok hb
      simp only [decide_eq_true_eq] at h1
      have h2 := key ((ext_need _ _).bad hb)
      refine ⟨h2.1, h2.2, ?_⟩
      have : lookA (s2.need (decide (n = ↑l.At.length))).A l.Name = some n := hA
      rw [sigS, this, h1]; rfl
    | none =>
      rw [hA] at hb
      simp only at hb ⊢
      have h2 := key ((ext_need s2 _).bad hb)
      refine ⟨h2.1, h2.2, ?_⟩
      show (match lookA s2.A l.Name with | some a => some a.toNat | none => (lookA (setA s2.S l.Name l.At.length) l.Name).map Int.toNat) = _
      rw [hA]
      simp only
      rw [look_setA, if_pos rfl]; rfl
theorem ext_ite {a b : Chk} (c : Prop) [Decidable c] {d : Chk} (h1 : Ext a b) (h2 : Ext a d) : Ext a (if c then b else d) := by split <;> assumption
theorem use_name {k : Int} (hk : 0 ≤ k ∧ k < 15) (h : (useOf k).regs = true ∨ (useOf k).frm = true) : (useOf k).name = true := by
  have : k = 0 ∨ k = 1 ∨ k = 2 ∨ k = 3 ∨ k = 4 ∨ k = 5 ∨ k = 6 ∨ k = 7 ∨ k = 8 ∨ k = 9 ∨ k = 10 ∨ k = 11 ∨ k = 12 ∨ k = 13 ∨ k = 14 := by omega
  rcases this with rfl | rfl | rfl | rfl | rfl | rfl | rfl | rfl | rfl | rfl | rfl | rfl | rfl | rfl | rfl <;> first | rfl | (rcases h with h | h <;> cases h)
theorem flds_ok (st : Chk) (s : GStmt) : Ext st (st.flds s) ∧ ((st.flds s).bad = false → 0 ≤ s.Kind ∧ s.Kind < 15 → Fit st.c.Flags.toNat st.c.Regs.toNat (sigS (st.flds s).A (st.flds s).S) s) := by
  unfold Chk.flds
  simp only
  obtain ⟨u, hu⟩ : ∃ u, u = useOf s.Kind := ⟨_, rfl⟩
  rw [← hu]
  obtain ⟨a1, e1⟩ : ∃ x, x = st.need (zeroB s) := ⟨_, rfl⟩
  rw [← e1]
  obtain ⟨a2, e2⟩ : ∃ x, x = (if u.f = true then a1.flag s.F else a1) := ⟨_, rfl⟩
  rw [← e2]
  obtain ⟨a3, e3⟩ : ∃ x, x = (if (u.g && decide (s.Kind ≠ 4)) = true then a2.flag s.G else a2) := ⟨_, rfl⟩
  rw [← e3]
  obtain ⟨a4, e4⟩ : ∃ x, x = (if s.Kind = 4 then a3.need (decide (s.G = 0) || decide (s.G = 1)) else a3) := ⟨_, rfl⟩
  rw [← e4]
  obtain ⟨a5, e5⟩ : ∃ x, x = (if u.r = true then a4.regs [s.R] else a4) := ⟨_, rfl⟩
  rw [← e5]
  obtain ⟨a6, e6⟩ : ∃ x, x = (a5.need (decide (0 ≤ s.N) && decide (s.N ≤ 12))) := ⟨_, rfl⟩
  rw [← e6]
  obtain ⟨a7, e7⟩ : ∃ x, x = (if u.lit = true then a6.lit s.Lit else a6) := ⟨_, rfl⟩
  rw [← e7]
  obtain ⟨a8, e8⟩ : ∃ x, x = (a7.regs s.Regs) := ⟨_, rfl⟩
  rw [← e8]
  obtain ⟨a9, e9⟩ : ∃ x, x = a8.need (!u.name || (lookA a8.A s.Name).isSome) := ⟨_, rfl⟩
  rw [← e9]
  obtain ⟨a10, e10⟩ : ∃ x, x = a9.need (!u.regs || decide ((lookA a8.A s.Name).getD 0 = s.Regs.length)) := ⟨_, rfl⟩
  rw [← e10]
  obtain ⟨a11, e11⟩ : ∃ x, x = (if u.frm = true then a10.need ((lookA a10.A s.From).isSome && decide ((lookA a8.A s.Name).getD 0 = (lookA a10.A s.From).getD 0)) else a10) := ⟨_, rfl⟩
  rw [← e11]
  have x1 : Ext st a1 := by rw [e1]; exact ext_need _ _
  have x2 : Ext a1 a2 := by rw [e2]; exact ext_ite _ (ext_flag _ _) (Ext.refl _)
  have x3 : Ext a2 a3 := by rw [e3]; exact ext_ite _ (ext_flag _ _) (Ext.refl _)
  have x4 : Ext a3 a4 := by rw [e4]; exact ext_ite _ (ext_need _ _) (Ext.refl _)
  have x5 : Ext a4 a5 := by rw [e5]; exact ext_ite _ (ext_regs _ _) (Ext.refl _)
  have x6 : Ext a5 a6 := by rw [e6]; exact ext_need _ _
  have x7 : Ext a6 a7 := by rw [e7]; exact ext_ite _ (lit_ext _ _) (Ext.refl _)
  have x8 : Ext a7 a8 := by rw [e8]; exact ext_regs _ _
  have x9 : Ext a8 a9 := by rw [e9]; exact ext_need _ _
  have x10 : Ext a9 a10 := by rw [e10]; exact ext_need _ _
  have x11 : Ext a10 a11 := by rw [e11]; exact ext_ite _ (ext_need _ _) (Ext.refl _)
  have y2 := x1.trans x2
  have y3 := y2.trans x3
  have y4 := y3.trans x4
  have y5 := y4.trans x5
  have y6 := y5.trans x6
  have y7 := y6.trans x7
  have y8 := y7.trans x8
  have y9 := y8.trans x9
  have y10 := y9.trans x10
  refine ⟨y10.trans x11, fun hb hk => ?_⟩
  have b10 := x11.bad hb
  have b9 := x10.bad b10
  have b8 := x9.bad b9
  have b7 := x8.bad b8
  have b6 := x7.bad b7
  have b5 := x6.bad b6
  have b4 := x5.bad b5
  have b3 := x4.bad b4
  have b2 := x3.bad b3
  have b1 := x2.bad b2
  have cF : ∀ {a : Chk}, a.c = st.c → a.c.Flags = st.c.Flags := fun h => by rw [h]
  have cR : ∀ {a : Chk}, a.c = st.c → a.c.Regs = st.c.Regs := fun h => by rw [h]
  have hA8 : a11.A = a8.A := by rw [x11.A, x10.A, x9.A]
  have hA10 : a11.A = a10.A := x11.A
  rw [hu] at e2 e3 e5 e7 e9 e10 e11
  exact {
    kind := hk
    f := fun h => by
      rw [if_pos h] at e2
      rw [e2] at b2
      have := need_ok b2
      simp only [Bool.and_eq_true, decide_eq_true_eq] at this
      rw [cF x1.c] at this; omega
    g := fun h h4 => by
      rw [if_pos (by simp [h, h4])] at e3
      rw [e3] at b3
      have := need_ok b3
      simp only [Bool.and_eq_true, decide_eq_true_eq] at this
      rw [cF y2.c] at this; omega
    r := fun h => by
      rw [if_pos h] at e5
      rw [e5] at b5
      have := regs_ok _ _ b5 s.R (by simp)
      rw [cR y4.c] at this; omega
    n := by
      rw [e6] at b6
      have := need_ok b6
      simpa using this
    name := fun h => by
      rw [e9] at b9
      have := need_ok b9
      rw [h] at this
      simp only [Bool.not_true, Bool.false_or, Option.isSome_iff_exists] at this
      obtain ⟨n, hn⟩ := this
      exact ⟨n.toNat, by rw [sigS, hA8, hn]⟩
    store := fun h => by
      have hn : (useOf s.Kind).name = true := by
        exact use_name hk (.inl h)
      rw [e9] at b9
      rw [e10] at b10
      have h1 := need_ok b9
      have h2 := need_ok b10
      rw [hn] at h1
      rw [h] at h2
      simp only [Bool.not_true, Bool.false_or, Option.isSome_iff_exists, decide_eq_true_eq] at h1 h2
      obtain ⟨n, hn⟩ := h1
      rw [hn] at h2
      simp only [Option.getD_some] at h2
      rw [sigS, hA8, hn, h2]; rfl
    regs := fun x hx => by
      rw [e8] at b8
      have := regs_ok _ _ b8 x hx
      rw [cR y7.c] at this; omega
    frm := fun h => by
      have hn : (useOf s.Kind).name = true := by
        exact use_name hk (.inr h)
      rw [if_pos h] at e11
      rw [e11] at hb
      rw [e9] at b9
      have h1 := need_ok b9
      have h2 := need_ok hb
      rw [hn] at h1
      simp only [Bool.not_true, Bool.false_or, Option.isSome_iff_exists, decide_eq_true_eq, Bool.and_eq_true] at h1 h2
      obtain ⟨n, hn⟩ := h1
      obtain ⟨⟨m, hm⟩, h3⟩ := h2
      rw [hn, hm] at h3
      simp only [Option.getD_some] at h3
      subst h3
      rw [sigS, sigS]
      have k1 : lookA a11.A s.From = some n := by rw [hA10]; exact hm
      have k2 : lookA a11.A s.Name = some n := by rw [hA8]; exact hn
      rw [k1, k2]
    lit := fun h => by
      rw [if_pos h] at e7
      rw [e7] at b7
      obtain ⟨h1, h2⟩ := lit_ok _ _ b7
      rw [cR y6.c] at h1
      refine ⟨fun x hx => by have := h1 x hx; omega, ?_⟩
      split
      · rename_i hk; rw [if_pos hk] at h2; exact h2
      · rename_i hk
        rw [if_neg hk] at h2
        refine ⟨h2.1, ?_⟩
        have x711 := (((x8.trans x9).trans x10).trans x11)
        rw [← e7] at h2
        have h3 := h2.2
        rw [sigS] at h3 ⊢
        rw [x711.A]
        cases hA : lookA a7.A s.Lit.Name with
        | some n => rw [hA] at h3; exact h3
        | none =>
          rw [hA] at h3
          simp only at h3 ⊢
          cases hS : lookA a7.S s.Lit.Name with
          | none => rw [hS] at h3; cases h3
          | some n =>
            rw [hS] at h3
            rw [x711.look hb _ _ hS]
            exact h3 }
end Go.Proofs.YtdedkpfbfklgbaaGreat
namespace Go.Proofs.YtdedkpfbfklgbaaGreat
open Go.RowKit Go.SX
set_option maxRecDepth 100000
set_option maxHeartbeats 4000000
set_option linter.unusedVariables false
set_option linter.unusedSimpArgs false

mutual
def depS : GStmt → Nat
  | ⟨_, _, _, _, _, _, _, _, _, body, els⟩ => 1 + max (depL body) (depL els)
def depL : List GStmt → Nat
  | [] => 0
  | s :: l => max (depS s) (depL l)
end
mutual
def allS (p : GStmt → Bool) : GStmt → Bool
  | ⟨k, f, g, r, n, nm, fr, lit, regs, body, els⟩ => p ⟨k, f, g, r, n, nm, fr, lit, regs, body, els⟩ && allL p body && allL p els
def allL (p : GStmt → Bool) : List GStmt → Bool
  | [] => true
  | s :: l => allS p s && allL p l
end
def ownT (A : Ar) (s : GStmt) : List GSym := if s.Kind = 0 ∧ s.Lit.Kind = 0 ∧ A s.Lit.Name = none then [⟨s.Lit.Name, s.Lit.At.length⟩] else []
mutual
def testsS (A : Ar) : GStmt → List GSym → List GSym
  | ⟨k, f, g, r, n, nm, fr, lit, regs, body, els⟩, out => testsL A els (testsL A body (out ++ ownT A ⟨k, f, g, r, n, nm, fr, lit, regs, body, els⟩))
def testsL (A : Ar) : List GStmt → List GSym → List GSym
  | [], out => out
  | s :: l, out => testsL A l (testsS A s out)
end
def consT (l : List GSym) : Bool := l.all fun a => decide (arOf l a.Name = some a.Arity)
def arrB (pre : List GSym) : List GSym → Bool
  | [] => true
  | a :: l => nameB a.Name && inr 13 a.Arity && !(arOf pre a.Name).isSome && arrB (pre ++ [a]) l
def refValid (c : GCode) : Bool :=
  (decide (1 ≤ c.Flags) && decide (c.Flags ≤ 1000) && decide (0 ≤ c.Regs) && decide (c.Regs ≤ 60) && decide (c.Arrays.length ≤ 60)) && arrB [] c.Arrays && (decide (cntL c.Body ≤ 20000) && decide (depL c.Body ≤ 60) && allL (refS (arOf c.Arrays) c.Flags c.Regs) c.Body) && consT (testsL (arOf c.Arrays) c.Body [])
theorem arOf_append (l m : List GSym) (k : ByteArray) : arOf (l ++ m) k = match arOf l k with | some n => some n | none => arOf m k := by
  unfold arOf
  rw [List.find?_append]
  cases h : l.find? fun a => decide (a.Name = k) <;> rfl
theorem arOf_one (a : GSym) (k : ByteArray) : arOf [a] k = if a.Name = k then some a.Arity else none := by
  unfold arOf
  by_cases h : a.Name = k
  · simp [h]
  · simp [h]
theorem consT_mono (l m : List GSym) (h : consT (l ++ m) = true) : consT l = true := by
  unfold consT at *
  rw [List.all_eq_true] at *
  intro a ha
  have h1 := of_decide_eq_true (h a (List.mem_append_left _ ha))
  rw [arOf_append] at h1
  rw [decide_eq_true_eq]
  cases h2 : arOf l a.Name with
  | some n => rw [h2] at h1; exact h1
  | none =>
    exfalso
    unfold arOf at h2
    rw [Option.map_eq_none_iff, List.find?_eq_none] at h2
    exact h2 a ha (by simp)
theorem consT_snoc (l : List GSym) (a : GSym) (h : consT l = true) : consT (l ++ [a]) = (match arOf l a.Name with | some n => decide (n = a.Arity) | none => true) := by
  unfold consT at *
  rw [List.all_append]
  have e1 : (l.all fun x => decide (arOf (l ++ [a]) x.Name = some x.Arity)) = true := by
    rw [List.all_eq_true] at *
    intro x hx
    have := of_decide_eq_true (h x hx)
    rw [decide_eq_true_eq, arOf_append, this]
  rw [e1, Bool.true_and]
  simp only [List.all_cons, List.all_nil, Bool.and_true]
  rw [arOf_append, arOf_one, if_pos rfl]
  cases arOf l a.Name <;> simp
mutual
theorem testsS_ext (A : Ar) : ∀ (s : GStmt) (out : List GSym), ∃ m, testsS A s out = out ++ m
  | ⟨k, f, g, r, n, nm, fr, lit, regs, body, els⟩, out => by
    rw [testsS]
    obtain ⟨m1, h1⟩ := testsL_ext A body (out ++ ownT A ⟨k, f, g, r, n, nm, fr, lit, regs, body, els⟩)
    obtain ⟨m2, h2⟩ := testsL_ext A els (testsL A body (out ++ ownT A ⟨k, f, g, r, n, nm, fr, lit, regs, body, els⟩))
    exact ⟨ownT A ⟨k, f, g, r, n, nm, fr, lit, regs, body, els⟩ ++ (m1 ++ m2), by rw [h2, h1]; simp⟩
theorem testsL_ext (A : Ar) : ∀ (l : List GStmt) (out : List GSym), ∃ m, testsL A l out = out ++ m
  | [], out => ⟨[], by simp [testsL]⟩
  | s :: l, out => by
    rw [testsL]
    obtain ⟨m1, h1⟩ := testsS_ext A s out
    obtain ⟨m2, h2⟩ := testsL_ext A l (testsS A s out)
    exact ⟨m1 ++ m2, by rw [h2, h1]; simp⟩
end
theorem testsS_false (A : Ar) (s : GStmt) (out : List GSym) (h : consT (testsS A s out) = true) : consT out = true := by
  obtain ⟨m, e⟩ := testsS_ext A s out; rw [e] at h; exact consT_mono _ _ h
theorem testsL_false (A : Ar) (l : List GStmt) (out : List GSym) (h : consT (testsL A l out) = true) : consT out = true := by
  obtain ⟨m, e⟩ := testsL_ext A l out; rw [e] at h; exact consT_mono _ _ h
/-- The symbols of a state read as those of a list. -/
def RS (S : List (ByteArray × Int)) (out : List GSym) : Prop := ∀ k, lookA S k = arOf out k
theorem own_step (A : Ar) (fl rg : Int) (s : GStmt) (S : List (ByteArray × Int)) (out : List GSym) (hf : fldB A fl rg s = true) (hR : RS S out) (ho : consT out = true) :
    symOk S (stSym A s) = consT (out ++ ownT A s) ∧ (symOk S (stSym A s) = true → RS (addSym S (stSym A s)) (out ++ ownT A s)) := by
  have hno : stSym A s = none → ownT A s = [] → symOk S (stSym A s) = consT (out ++ ownT A s) ∧ (symOk S (stSym A s) = true → RS (addSym S (stSym A s)) (out ++ ownT A s)) := by
    intro h1 h2
    rw [h1, h2, List.append_nil, ho]
    exact ⟨rfl, fun _ => hR⟩
  by_cases hk : s.Kind = 0
  · have hl : litB A rg s.Lit = true := by
      rw [fld_0 A fl rg s hk] at hf
      simp only [Bool.and_eq_true] at hf
      exact hf.2
    by_cases hl2 : s.Lit.Kind = 1 ∨ s.Lit.Kind = 2
    · refine hno (by simp [stSym, hk, litSym, hl2]) ?_
      unfold ownT
      rw [if_neg]
      rintro ⟨-, h, -⟩
      omega
    · have hl0 : s.Lit.Kind = 0 := by
        unfold litB at hl
        rw [if_neg hl2] at hl
        simp only [Bool.and_eq_true, decide_eq_true_eq] at hl
        exact hl.2.1.1.1
      cases hA : A s.Lit.Name with
      | some n =>
        refine hno (by simp [stSym, hk, litSym, hl2, hA]) ?_
        unfold ownT
        rw [if_neg]
        rintro ⟨-, -, h⟩
        rw [hA] at h; cases h
      | none =>
        have e1 : stSym A s = some (s.Lit.Name, (s.Lit.At.length : Int)) := by simp [stSym, hk, litSym, hl2, hA]
        have e2 : ownT A s = [⟨s.Lit.Name, s.Lit.At.length⟩] := by unfold ownT; rw [if_pos ⟨hk, hl0, hA⟩]
        rw [e1, e2, consT_snoc _ _ ho]
        refine ⟨?_, ?_⟩
        · show (match lookA S s.Lit.Name with | none => true | some m => decide (m = (s.Lit.At.length : Int))) = _
          rw [hR]
          cases arOf out s.Lit.Name <;> rfl
        · intro h k
          show lookA (setA S s.Lit.Name s.Lit.At.length) k = _
          rw [look_setA, arOf_append, arOf_one]
          by_cases hkk : k = s.Lit.Name
          · subst hkk
            rw [if_pos rfl, if_pos rfl]
            have h' : (match lookA S s.Lit.Name with | none => true | some m => decide (m = (s.Lit.At.length : Int))) = true := h
            rw [hR] at h'
            cases ha : arOf out s.Lit.Name with
            | none => rfl
            | some m => rw [ha] at h'; rw [show m = (s.Lit.At.length : Int) from of_decide_eq_true h']
          · rw [if_neg hkk, if_neg (fun e => hkk e.symm), hR]
            cases arOf out k <;> rfl
  · exact hno (by simp [stSym, hk]) (by unfold ownT; rw [if_neg]; rintro ⟨h, -⟩; exact hk h)
theorem stmtP_bad (s : GStmt) (L : Int) (st : Chk) (h : st.bad = true) : (stmtP s L st).bad = true := by
  have h1 : (st.enter s L).bad = true := by show (st.bad || _) = true; rw [h]; rfl
  rw [stmtP_eq]
  simp only [h1, if_true]
theorem listP_bad : ∀ (l : List GStmt) (L : Int) (st : Chk), st.bad = true → (listP l L st).1.bad = true
  | [], L, st, h => h
  | s :: l, L, st, h => by
    rw [listP]
    simp only [stmtP_bad s L st h, if_true]
structure SOut (st st' : Chk) (n : Nat) (out : List GSym) : Prop where
  c : st'.c = st.c
  A : st'.A = st.A
  cnt : st'.cnt = st.cnt + n
  R : RS st'.S out
mutual
theorem stmtP_iff : ∀ (s : GStmt) (L : Int) (st : Chk) (out : List GSym), st.bad = false → RS st.S out → consT out = true →
    ((stmtP s L st).bad = false ↔ (allS (refS (lookA st.A) st.c.Flags st.c.Regs) s = true ∧ L - 1 + depS s ≤ 60 ∧ consT (testsS (lookA st.A) s out) = true ∧ st.cnt + cntS s ≤ 20000)) ∧
    ((stmtP s L st).bad = false → SOut st (stmtP s L st) (cntS s) (testsS (lookA st.A) s out))
  | ⟨k, f, g, r, n, nm, fr, lit, regs, body, els⟩, L, st, out, hb, hR, ho => by
    rw [stmtP_eq, allS, testsS, cntS, depS]
    generalize hs : (⟨k, f, g, r, n, nm, fr, lit, regs, body, els⟩ : GStmt) = s
    have hk : s.Kind = k := by rw [← hs]
    have hbody : s.Body = body := by rw [← hs]
    have hels : s.Else = els := by rw [← hs]
    rw [hbody, hels]
    clear hs
    simp only
    have e1b : (st.enter s L).bad = (st.bad || !(decide (0 ≤ s.Kind) && decide (s.Kind < 15) && decide (st.cnt + 1 ≤ 20000) && decide (L ≤ 60))) := rfl
    have e1c : (st.enter s L).c = st.c := rfl
    have e1A : (st.enter s L).A = st.A := rfl
    have e1S : (st.enter s L).S = st.S := rfl
    have e1n : (st.enter s L).cnt = st.cnt + 1 := rfl
    generalize st.enter s L = s1 at *
    rw [hb, Bool.false_or] at e1b
    by_cases hE : (decide (0 ≤ s.Kind) && decide (s.Kind < 15) && decide (st.cnt + 1 ≤ 20000) && decide (L ≤ 60)) = true
    · have hs1 : s1.bad = false := by rw [e1b, hE]; rfl
      simp only [Bool.and_eq_true, decide_eq_true_eq] at hE
      obtain ⟨⟨⟨k0, k1⟩, hn⟩, hL⟩ := hE
      have hfl := flds_step s1 s ⟨k0, k1⟩
      rw [e1A, e1S, e1c] at hfl
      have hrefS : refS (lookA st.A) st.c.Flags st.c.Regs s = fldB (lookA st.A) st.c.Flags st.c.Regs s := by
        unfold refS; rw [decide_eq_true k0, decide_eq_true k1]; rfl
      rw [hrefS]
      simp only [hs1, Bool.false_eq_true, if_false]
      have hfb := hfl.bad
      rw [hs1, Bool.false_or] at hfb
      have hcnt2 : (s1.flds s).cnt = st.cnt + 1 := (s1.flds_cnt s).trans e1n
      have hc2 := hfl.c.trans e1c
      have hA2 := hfl.A.trans e1A
      have hS2 := hfl.S
      generalize s1.flds s = s2 at *
      cases hfld : fldB (lookA st.A) st.c.Flags st.c.Regs s with
      | false =>
        rw [hfld, Bool.false_and] at hfb
        have hbb : s2.bad = true := hfb
        have h1 := listP_bad body (L + 1) s2 hbb
        have h2 : (if (listP body (L + 1) s2).2 = true then (listP body (L + 1) s2).1 else (listP els (L + 1) (listP body (L + 1) s2).1).1).bad = true := by
          split
          · exact h1
          · exact listP_bad _ _ _ h1
        rw [h2]
        simp
      | true =>
        have hown := own_step (lookA st.A) st.c.Flags st.c.Regs s st.S out hfld hR ho
        rw [hfld, Bool.true_and] at hfb
        cases hsym : symOk st.S (stSym (lookA st.A) s) with
        | false =>
          rw [hsym] at hfb
          have hbb : s2.bad = true := hfb
          have h1 := listP_bad body (L + 1) s2 hbb
          have h2 : (if (listP body (L + 1) s2).2 = true then (listP body (L + 1) s2).1 else (listP els (L + 1) (listP body (L + 1) s2).1).1).bad = true := by
            split
            · exact h1
            · exact listP_bad _ _ _ h1
          rw [h2]
          refine ⟨⟨(by rintro ⟨⟩), fun h => ?_⟩, (by rintro ⟨⟩)⟩
          have h3 := testsL_false _ _ _ (testsL_false _ _ _ h.2.2.1)
          rw [← hown.1, hsym] at h3
          cases h3
        | true =>
          rw [hsym] at hfb
          have hbb : s2.bad = false := hfb
          have hR2 : RS s2.S (out ++ ownT (lookA st.A) s) := by rw [hS2]; exact hown.2 hsym
          have ho2 : consT (out ++ ownT (lookA st.A) s) = true := by rw [← hown.1, hsym]
          have ih1 := listP_iff body (L + 1) s2 _ hbb hR2 ho2 (by omega) (by omega)
          rw [hA2, hc2, hcnt2] at ih1
          generalize listP body (L + 1) s2 = p at *
          obtain ⟨i1, i2, i3⟩ := ih1
          cases hp : p.1.bad with
          | true =>
            rw [hp] at i1 i2
            have hbad : (if p.2 = true then p.1 else (listP els (L + 1) p.1).1).bad = true := by rw [i1, if_pos rfl]; exact hp
            rw [hbad]
            refine ⟨⟨(by rintro ⟨⟩), fun h => ?_⟩, (by rintro ⟨⟩)⟩
            have h3 : true = false := i2.2 ⟨?_, ?_, testsL_false _ _ _ h.2.2.1, ?_⟩
            · cases h3
            · have := h.1; simp only [Bool.true_and, Bool.and_eq_true] at this; exact this.1
            · have := h.2.1; omega
            · have := h.2.2.2; omega
          | false =>
            rw [hp] at i1
            have i3 := i3 hp
            obtain ⟨b1, b2, b3, b4⟩ := i2.1 hp
            have hif : (if p.2 = true then p.1 else (listP els (L + 1) p.1).1) = (listP els (L + 1) p.1).1 := by rw [i1]; rfl
            rw [hif]
            have ih2 := listP_iff els (L + 1) p.1 _ hp i3.R b3 (by omega) (by rw [i3.cnt, hcnt2]; omega)
            rw [i3.A, i3.c, i3.cnt, hA2, hc2, hcnt2] at ih2
            obtain ⟨j1, j2, j3⟩ := ih2
            refine ⟨?_, fun h => ?_⟩
            · rw [j2]
              constructor
              · rintro ⟨d1, d2, d3, d4⟩
                refine ⟨by rw [b1, d1]; rfl, by omega, d3, by omega⟩
              · rintro ⟨d1, d2, d3, d4⟩
                refine ⟨?_, by omega, d3, by omega⟩
                simp only [Bool.true_and, Bool.and_eq_true] at d1
                exact d1.2
            · have j3 := j3 h
              exact ⟨j3.c.trans (i3.c.trans hc2), j3.A.trans (i3.A.trans hA2), by rw [j3.cnt, i3.cnt, hcnt2]; omega, j3.R⟩
    · have hs1 : s1.bad = true := by rw [e1b, Bool.eq_false_iff.2 hE]; rfl
      simp only [hs1, if_true]
      refine ⟨⟨(by rintro ⟨⟩), fun h => absurd ?_ hE⟩, (by rintro ⟨⟩)⟩
      obtain ⟨d1, d2, d3, d4⟩ := h
      simp only [refS, Bool.and_eq_true, decide_eq_true_eq] at d1 ⊢
      exact ⟨⟨d1.1.1.1, by omega⟩, by omega⟩
theorem listP_iff : ∀ (l : List GStmt) (L : Int) (st : Chk) (out : List GSym), st.bad = false → RS st.S out → consT out = true → L ≤ 61 → st.cnt ≤ 20000 →
    ((listP l L st).2 = (listP l L st).1.bad) ∧
    ((listP l L st).1.bad = false ↔ (allL (refS (lookA st.A) st.c.Flags st.c.Regs) l = true ∧ L - 1 + depL l ≤ 60 ∧ consT (testsL (lookA st.A) l out) = true ∧ st.cnt + cntL l ≤ 20000)) ∧
    ((listP l L st).1.bad = false → SOut st (listP l L st).1 (cntL l) (testsL (lookA st.A) l out))
  | [], L, st, out, hb, hR, ho, hL, hn => by
    rw [listP, allL, depL, testsL, cntL]
    exact ⟨hb.symm, ⟨fun _ => ⟨rfl, by simp; omega, ho, by simp; omega⟩, fun _ => hb⟩, fun _ => ⟨rfl, rfl, by simp, hR⟩⟩
  | s :: l, L, st, out, hb, hR, ho, hL, hn => by
    rw [listP, allL, depL, testsL, cntL]
    try simp only
    have ih1 := stmtP_iff s L st out hb hR ho
    generalize stmtP s L st = s1 at *
    obtain ⟨i2, i3⟩ := ih1
    cases hp : s1.bad with
    | true =>
      simp only [if_true]
      rw [hp] at i2
      refine ⟨hp.symm, ?_, fun h => by rw [hp] at h; cases h⟩
      rw [hp]
      refine ⟨(by rintro ⟨⟩), fun h => ?_⟩
      exact i2.2 ⟨by have := h.1; rw [Bool.and_eq_true] at this; exact this.1, by have := h.2.1; omega, testsL_false _ _ _ h.2.2.1, by have := h.2.2.2; omega⟩
    | false =>
      simp only [Bool.false_eq_true, if_false]
      have i3 := i3 hp
      obtain ⟨b1, b2, b3, b4⟩ := i2.1 hp
      have ih2 := listP_iff l L s1 _ hp i3.R b3 hL (by rw [i3.cnt]; omega)
      rw [i3.A, i3.c, i3.cnt] at ih2
      obtain ⟨j1, j2, j3⟩ := ih2
      refine ⟨j1, ?_, fun h => ?_⟩
      · rw [j2]
        constructor
        · rintro ⟨d1, d2, d3, d4⟩
          exact ⟨by rw [b1, d1]; rfl, by omega, d3, by omega⟩
        · rintro ⟨d1, d2, d3, d4⟩
          rw [b1, Bool.true_and] at d1
          exact ⟨d1, by omega, d3, by omega⟩
      · have j3 := j3 h
        exact ⟨j3.c.trans i3.c, j3.A.trans i3.A, by rw [j3.cnt, i3.cnt]; omega, j3.R⟩
end
theorem bodyP_iff : ∀ (l : List GStmt) (st : Chk) (out : List GSym), st.bad = false → RS st.S out → consT out = true → st.cnt ≤ 20000 →
    ((bodyP l st).bad = false ↔ (allL (refS (lookA st.A) st.c.Flags st.c.Regs) l = true ∧ depL l ≤ 60 ∧ consT (testsL (lookA st.A) l out) = true ∧ st.cnt + cntL l ≤ 20000)) ∧
    ((bodyP l st).bad = false → SOut st (bodyP l st) (cntL l) (testsL (lookA st.A) l out))
  | [], st, out, hb, hR, ho, hn => by
    rw [bodyP, allL, depL, testsL, cntL]
    exact ⟨⟨fun _ => ⟨rfl, by omega, ho, by simp; omega⟩, fun _ => hb⟩, fun _ => ⟨rfl, rfl, by simp, hR⟩⟩
  | s :: l, st, out, hb, hR, ho, hn => by
    rw [bodyP, allL, depL, testsL, cntL]
    simp only [hb, Bool.false_eq_true, if_false]
    have ih1 := stmtP_iff s 1 st out hb hR ho
    generalize stmtP s 1 st = s1 at *
    obtain ⟨i2, i3⟩ := ih1
    cases hp : s1.bad with
    | true =>
      rw [hp] at i2
      have hbb : (bodyP l s1).bad = true := by
        cases l with
        | nil => exact hp
        | cons y l => rw [bodyP, if_pos hp]; exact hp
      rw [hbb]
      refine ⟨⟨(by rintro ⟨⟩), fun h => ?_⟩, (by rintro ⟨⟩)⟩
      exact i2.2 ⟨by have := h.1; rw [Bool.and_eq_true] at this; exact this.1, by have := h.2.1; omega, testsL_false _ _ _ h.2.2.1, by have := h.2.2.2; omega⟩
    | false =>
      have i3 := i3 hp
      obtain ⟨b1, b2, b3, b4⟩ := i2.1 hp
      have ih2 := bodyP_iff l s1 _ hp i3.R b3 (by rw [i3.cnt]; omega)
      rw [i3.A, i3.c, i3.cnt] at ih2
      obtain ⟨j2, j3⟩ := ih2
      refine ⟨?_, fun h => ?_⟩
      · rw [j2]
        constructor
        · rintro ⟨d1, d2, d3, d4⟩
          exact ⟨by rw [b1, d1]; rfl, by omega, d3, by omega⟩
        · rintro ⟨d1, d2, d3, d4⟩
          rw [b1, Bool.true_and] at d1
          exact ⟨d1, by omega, d3, by omega⟩
      · have j3 := j3 h
        exact ⟨j3.c.trans i3.c, j3.A.trans i3.A, by rw [j3.cnt, i3.cnt]; omega, j3.R⟩
theorem arrsP_iff : ∀ (l : List GSym) (st : Chk) (g : MG) (pre : List GSym), (∀ k, lookA st.A k = arOf pre k) →
    ((arrsP l st g).1.bad = false ↔ (st.bad = false ∧ arrB pre l = true)) ∧ ((arrsP l st g).1.bad = false → ∀ k, lookA (arrsP l st g).1.A k = arOf (pre ++ l) k) ∧ (arrsP l st g).1.c = st.c ∧ (arrsP l st g).1.S = st.S
  | [], st, g, pre, hA => by
    rw [arrsP, arrB]
    exact ⟨⟨fun h => ⟨h, rfl⟩, fun h => h.1⟩, fun _ k => by simpa using hA k, rfl, rfl⟩
  | a :: l, st, g, pre, hA => by
    rw [arrsP, arrB]
    have hb1 : (st.arr a).bad = (st.bad || !(!(lookA st.A a.Name).isSome && nameB a.Name && decide (0 ≤ a.Arity) && decide (a.Arity ≤ 12))) := rfl
    have hc1 : (st.arr a).c = st.c := rfl
    have hS1 : (st.arr a).S = st.S := rfl
    have hA1 : (st.arr a).A = setA st.A a.Name a.Arity := rfl
    have hmono : ∀ (l : List GSym) (s : Chk) (g : MG), s.bad = true → (arrsP l s g).1.bad = true := by
      intro l
      induction l with
      | nil => intro s g h; exact h
      | cons x l ih => intro s g h; exact ih _ _ (by show (s.bad || _) = true; rw [h]; rfl)
    have hcs : ∀ (l : List GSym) (s : Chk) (g : MG), (arrsP l s g).1.c = s.c ∧ (arrsP l s g).1.S = s.S := by
      intro l
      induction l with
      | nil => intro s g; exact ⟨rfl, rfl⟩
      | cons x l ih => intro s g; exact ⟨(ih _ _).1, (ih _ _).2⟩
    refine ⟨?_, ?_, (hcs _ _ _).1.trans hc1, (hcs _ _ _).2.trans hS1⟩
    all_goals generalize st.arr a = s1 at *
    all_goals
      cases hp : s1.bad with
      | true =>
        have := hmono l s1 (gsetA st.A g a.Name) hp
        rw [this]
        first
        | (intro h; cases h; done)
        | (refine ⟨(by rintro ⟨⟩), fun h => ?_⟩
           exfalso
           rw [hp, h.1] at hb1
           have h2 := h.2
           rw [hA] at hb1
           simp only [inr, Bool.and_eq_true, decide_eq_true_eq, Bool.not_eq_true'] at h2
           rw [h2.1.2, h2.1.1.1, decide_eq_true h2.1.1.2.1, decide_eq_true (show a.Arity ≤ 12 by omega)] at hb1
           cases hb1)
      | false =>
        rw [hp] at hb1
        have hz := hb1.symm
        rw [Bool.or_eq_false_iff] at hz
        have hz2 : (!(lookA st.A a.Name).isSome && nameB a.Name && decide (0 ≤ a.Arity) && decide (a.Arity ≤ 12)) = true := by simpa using hz.2
        simp only [Bool.and_eq_true, decide_eq_true_eq, Bool.not_eq_true'] at hz2
        obtain ⟨⟨⟨z1, z2⟩, z3⟩, z4⟩ := hz2
        have hnone : arOf pre a.Name = none := by rw [← hA]; simpa using z1
        have hA2 : ∀ k, lookA s1.A k = arOf (pre ++ [a]) k := by
          intro k
          rw [hA1, look_setA, arOf_append, arOf_one, hA]
          by_cases hk : k = a.Name
          · subst hk; rw [if_pos rfl, if_pos rfl, hnone]
          · rw [if_neg hk, if_neg (fun e => hk e.symm)]; cases arOf pre k <;> rfl
        have ih := arrsP_iff l s1 (gsetA st.A g a.Name) (pre ++ [a]) hA2
        rw [hp] at ih
        first
        | (rw [ih.1]
           have e : (nameB a.Name && inr 13 a.Arity && !(arOf pre a.Name).isSome && arrB (pre ++ [a]) l) = arrB (pre ++ [a]) l := by
             rw [z2, hnone]
             simp only [inr]
             rw [decide_eq_true z3, decide_eq_true (show a.Arity < 13 by omega)]; rfl
           rw [e, hz.1])
        | (intro h k; have := ih.2.1 h k; rw [List.append_assoc] at this; exact this)
theorem checked_iff (c : GCode) : (checkedP c).bad = !refValid c := by
  have h0 : (chk0 c).bad = !(decide (1 ≤ c.Flags) && decide (c.Flags ≤ 1000) && decide (0 ≤ c.Regs) && decide (c.Regs ≤ 60) && decide (c.Arrays.length ≤ 60)) := rfl
  have hA := arrsP_iff c.Arrays (chk0 c) ⟨[], 0⟩ [] (fun k => rfl)
  have hcnt := arrsP_cnt c.Arrays (chk0 c) ⟨[], 0⟩
  have hc0 : (chk0 c).c = c := rfl
  have hS0 : (chk0 c).S = [] := rfl
  have hn0 : (chk0 c).cnt = 0 := rfl
  rw [hc0, hS0] at hA
  rw [hn0] at hcnt
  unfold checkedP refValid
  generalize (decide (1 ≤ c.Flags) && decide (c.Flags ≤ 1000) && decide (0 ≤ c.Regs) && decide (c.Regs ≤ 60) && decide (c.Arrays.length ≤ 60)) = h at *
  generalize (arrsP c.Arrays (chk0 c) ⟨[], 0⟩).1 = s1 at *
  obtain ⟨a1, a2, a3, a4⟩ := hA
  cases hp : s1.bad with
  | true =>
    have hbb : (bodyP c.Body s1).bad = true := by
      cases c.Body with
      | nil => exact hp
      | cons y l => rw [bodyP, if_pos hp]; exact hp
    rw [hbb]
    have : (h && arrB [] c.Arrays) = false := by
      rw [Bool.eq_false_iff]
      intro hh
      rw [Bool.and_eq_true] at hh
      have := a1.2 ⟨by rw [h0, hh.1]; rfl, hh.2⟩
      rw [hp] at this; cases this
    rw [this]; rfl
  | false =>
    obtain ⟨b1, b2⟩ := a1.1 hp
    have hh : h = true := by rw [h0] at b1; simpa using b1
    have hAr : lookA s1.A = arOf c.Arrays := funext fun k => by simpa using a2 hp k
    have hB := (bodyP_iff c.Body s1 [] hp (by rw [a4]; intro k; rfl) rfl (by omega)).1
    rw [hAr, a3, hcnt] at hB
    rw [hh, b2, Bool.true_and, Bool.true_and]
    have e : (!(decide (cntL c.Body ≤ 20000) && decide (depL c.Body ≤ 60) && allL (refS (arOf c.Arrays) c.Flags c.Regs) c.Body && consT (testsL (arOf c.Arrays) c.Body []))) = (bodyP c.Body s1).bad := by
      cases hx : (bodyP c.Body s1).bad with
      | false =>
        obtain ⟨d1, d2, d3, d4⟩ := hB.1 hx
        rw [d1, d3, decide_eq_true d2, decide_eq_true (show cntL c.Body ≤ 20000 by omega)]; rfl
      | true =>
        cases hy : (decide (cntL c.Body ≤ 20000) && decide (depL c.Body ≤ 60) && allL (refS (arOf c.Arrays) c.Flags c.Regs) c.Body && consT (testsL (arOf c.Arrays) c.Body [])) with
        | false => rfl
        | true =>
          simp only [Bool.and_eq_true, decide_eq_true_eq] at hy
          have := hB.2 ⟨hy.1.2, hy.1.1.2, hy.2, by omega⟩
          rw [hx] at this; cases this
    rw [← e]
end Go.Proofs.YtdedkpfbfklgbaaGreat
namespace Go.Proofs.YtdedkpfbfklgbaaGreat
open Go.RowKit Go.SX
set_option maxRecDepth 100000
set_option maxHeartbeats 4000000
set_option linter.unusedVariables false
set_option linter.unusedSimpArgs false

theorem okB {s : GStmt} (h : s.Ok) : s.Body.length ≤ 4611686018427387904 ∧ (∀ x ∈ s.Body, x.Ok) ∧ s.Else.length ≤ 4611686018427387904 ∧ (∀ x ∈ s.Else, x.Ok) := by
  obtain ⟨_, h1, h2, h3, h4⟩ := h
  exact ⟨by omega, h2, by omega, h4⟩
theorem allS_eq (p : GStmt → Bool) (s : GStmt) : allS p s = (p s && allL p s.Body && allL p s.Else) := by cases s; rfl
theorem ref_stmts (c : GCode) (hc : c.Ok) : ∀ (n : Nat) (l : List GStmt) (hn : cntL l ≤ n) (hl : l.length ≤ 4611686018427387904) (ho : ∀ x ∈ l, x.Ok),
    Tri Tryz.prog 54 [c.av, .sl (l.map GStmt.av)] [] (D (.bool (allL (refS (arOf c.Arrays) c.Flags c.Regs) l)) []) := by
  generalize hA : refS (arOf c.Arrays) c.Flags c.Regs = p
  intro n
  induction n using Nat.strongRecOn with
  | _ n ih =>
    intro l hn hl ho
    refine Tri.enter 39 Tryz.func54 rfl rfl rfl rfl fun Fr w0 => ?_
    repeat' (first
      | refine AW.seq ?_
      | (refine AW.region_at 0 ?_ <;> (first | refine AL.d (AOp.box_ro rfl rfl) ?_ | refine AL.d (AOp.box_ro rfl rfl) ?_) <;> refine AL.e ?_ <;> refine AL.nil ?_)
      | (refine AW.region_at 1 ?_ <;> refine AL.e ?_ <;> refine AL.nil ?_)
      | refine AW.cond_true rfl ?_
      | refine AW.cond_false rfl ?_
      | refine AW.block ?_
      | refine AW.endblk ?_
      | refine AW.skip ?_
      | refine AW.exit rfl ?_
      | refine AW.label ?_
      | refine AW.j (fun hb => ?_) (fun hb => ?_))
    refine AW.prune [1, 2, 5] (AW.loop (fun m af h => ∃ i : Nat, i ≤ l.length ∧ m = l.length - i ∧ af = [(1, .sl (l.map GStmt.av)), (2, .at c.av), (5, .int .i64 i)] ∧ h = [] ∧ allL p l = allL p (l.drop i)) l.length ⟨0, Nat.zero_le _, rfl, rfl, rfl, rfl⟩ ?_)
    rintro m af h ⟨i, hi, rfl, rfl, rfl, he⟩
    refine AW.seq ?_
    by_cases hlt : i < l.length
    · obtain ⟨x, hx⟩ := get_lt hlt
      have hx' : (l.map GStmt.av)[((i : Nat) : Int).toNat]? = some x.st := GStmt.get hx
      have hxm := List.mem_of_getElem? hx
      have hxo := ho x hxm
      have hcx := cnt_mem hxm
      have hbo := okB hxo
      have hS := ref_stmt c hc x hxo
      rw [hA] at hS
      have hB := ih (cntL x.Body) (by have := cntS_eq x; omega) x.Body (Nat.le_refl _) hbo.1 hbo.2.1
      have hE := ih (cntL x.Else) (by have := cntS_eq x; omega) x.Else (Nat.le_refl _) hbo.2.2.1 hbo.2.2.2
      rw [drop_cons hx, allL, allS_eq] at he
      repeat' (first
        | refine AW.seq ?_
        | (refine AW.region_at 2 ?_ <;> refine AL.e ?_ <;> refine AL.e ?_ <;> refine AL.d AOp.ln ?_ <;> refine AL.e ?_ <;> refine AL.nil ?_)
        | (refine AW.da 4 ?_ <;> refine AQ.p rfl AOp.la ?_ <;> refine AQ.e ?_ <;> refine AQ.e ?_ <;> refine AQ.p rfl (AOp.index_sl rfl rfl (by omega) hx' (by kernel_rfl) rfl) ?_ <;> refine AQ.p rfl AOp.la ?_ <;> (first | refine AQ.p rfl (AOp.call rfl rfl hS) ?_ | refine AQ.p rfl (AOp.call rfl rfl hB) ?_ | refine AQ.p rfl (AOp.call rfl rfl hE) ?_) <;> refine AQ.e ?_ <;> refine AQ.e ?_ <;> (first | refine AQ.gp rfl AOp.la ?_ | refine AQ.k ?_ | (refine AQ.x (fun hb => ?_) (fun hb => ?_) <;> first | refine AQ.gp rfl AOp.la ?_ | refine AQ.k ?_)) <;> (first | refine AQ.ge ?_ | refine AQ.k ?_) <;> (first | refine AQ.ge ?_ | refine AQ.k ?_) <;> (first | refine AQ.gp rfl (AOp.index_sl rfl rfl (by omega) hx' (by kernel_rfl) rfl) ?_ | refine AQ.k ?_) <;> (first | refine AQ.gp rfl AOp.fa ?_ | refine AQ.gp rfl (AOp.fr 12) ?_ | refine AQ.k ?_) <;> (first | refine AQ.gp rfl AOp.la ?_ | refine AQ.k ?_) <;> (first | refine AQ.gp rfl (AOp.call rfl rfl hS) ?_ | refine AQ.gp rfl (AOp.call rfl rfl hB) ?_ | refine AQ.gp rfl (AOp.call rfl rfl hE) ?_ | refine AQ.k ?_) <;> (first | refine AQ.ge ?_ | refine AQ.k ?_) <;> refine AQ.e ?_ <;> refine AQ.e ?_ <;> (first | refine AQ.gp rfl AOp.la ?_ | refine AQ.k ?_ | (refine AQ.x (fun hb => ?_) (fun hb => ?_) <;> first | refine AQ.gp rfl AOp.la ?_ | refine AQ.k ?_)) <;> (first | refine AQ.ge ?_ | refine AQ.k ?_) <;> (first | refine AQ.ge ?_ | refine AQ.k ?_) <;> (first | refine AQ.gp rfl (AOp.index_sl rfl rfl (by omega) hx' (by kernel_rfl) rfl) ?_ | refine AQ.k ?_) <;> (first | refine AQ.gp rfl AOp.fa ?_ | refine AQ.gp rfl (AOp.fr 13) ?_ | refine AQ.k ?_) <;> (first | refine AQ.gp rfl AOp.la ?_ | refine AQ.k ?_) <;> (first | refine AQ.gp rfl (AOp.call rfl rfl hS) ?_ | refine AQ.gp rfl (AOp.call rfl rfl hB) ?_ | refine AQ.gp rfl (AOp.call rfl rfl hE) ?_ | refine AQ.k ?_) <;> (first | refine AQ.ge ?_ | refine AQ.k ?_) <;> refine AQ.e ?_ <;> refine AQ.nil ?_)
        | (refine AW.region_at 5 ?_ <;> refine AL.e ?_ <;> refine AL.nil ?_)
        | (refine AW.region_at 3 ?_ <;> refine AL.e ?_ <;> refine AL.d AOp.ad ?_ <;> refine AL.e ?_ <;> refine AL.nil ?_)
        | refine AW.cond_true rfl ?_
        | refine AW.cond_false rfl ?_
        | refine AW.block ?_
        | refine AW.endblk ?_
        | refine AW.skip ?_
        | refine AW.exit rfl ?_
        | refine AW.label ?_
        | refine AW.j (fun hb => ?_) (fun hb => ?_))
      all_goals try (exfalso; simp only [decide_eq_true_eq, decide_eq_false_iff_not, List.length_map] at *; omega)
      all_goals clear hS hB hE ih
      all_goals first
        | (refine AW.retv rfl ⟨retB ?_, rfl⟩; rw [he]; simp_all; done)
        | (refine AW.again_keep (l.length - (i + 1)) [1, 2, 5] (by omega) ⟨i + 1, hlt, rfl, rfl, rfl, ?_⟩; rw [he]; simp_all; done)
    · rw [List.drop_eq_nil_of_le (by omega)] at he
      repeat' (first
        | refine AW.seq ?_
        | (refine AW.region_at 2 ?_ <;> refine AL.e ?_ <;> refine AL.e ?_ <;> refine AL.d AOp.ln ?_ <;> refine AL.e ?_ <;> refine AL.nil ?_)
        | (refine AW.region_at 6 ?_ <;> refine AL.e ?_ <;> refine AL.nil ?_)
        | refine AW.cond_true rfl ?_
        | refine AW.cond_false rfl ?_
        | refine AW.block ?_
        | refine AW.endblk ?_
        | refine AW.skip ?_
        | refine AW.exit rfl ?_
        | refine AW.label ?_
        | refine AW.j (fun hb => ?_) (fun hb => ?_))
      all_goals try (exfalso; simp only [decide_eq_true_eq, decide_eq_false_iff_not, List.length_map] at *; omega)
      exact AW.retv rfl ⟨by rw [he]; rfl, rfl⟩
section
variable {P : Program} {af : AF} {ah : AH} {d : Option Tmp} {T : TypeId} {ps : String} {es : Array Edge} {gd : Option (Nat × Bool)}
theorem AOp.max3 {x y z : Operand} {m n o : Int} {k : IntKind} {tys : Array TypeId} (hx : aeval af x = some (.int k m)) (hy : aeval af y = some (.int k n)) (hz : aeval af z = some (.int k o)) : AOp P ⟨d, .call ⟨.builtin .max, #[x, y, z], tys⟩, T, ps, es, gd⟩ af ah (D (.int k (max (max m n) o)) ah) :=
  AOp.of_pure fun S a w hf _ => ⟨.int k (max (max m n) o), by
    simp [execOp, resolve, invoke, builtin, Builtin.max_, Builtin.max2, (aeval_rel hf hx).int, (aeval_rel hf hy).int, (aeval_rel hf hz).int]
    simp only [Int.max_def]
    repeat' split
    all_goals omega, mk_int⟩
end
theorem depS_eq (s : GStmt) : depS s = 1 + max (depL s.Body) (depL s.Else) := by cases s; rfl
mutual
theorem depS_le : ∀ s : GStmt, depS s ≤ cntS s
  | ⟨_, _, _, _, _, _, _, _, _, body, els⟩ => by
    have h1 := depL_le body; have h2 := depL_le els
    rw [depS, cntS]; omega
theorem depL_le : ∀ l : List GStmt, depL l ≤ cntL l
  | [] => Nat.le_refl _
  | s :: l => by
    have h1 := depS_le s; have h2 := depL_le l
    rw [depL, cntL]; omega
end
theorem ref_Count : ∀ (n : Nat) (l : List GStmt) (hn : cntL l ≤ n) (hb : cntL l ≤ 1000000) (hl : l.length ≤ 4611686018427387904) (ho : ∀ x ∈ l, x.Ok),
    Tri Tryz.prog 53 [.sl (l.map GStmt.av)] [] (D (.tup [.int .i64 (cntL l), .int .i64 (depL l)]) []) := by
  intro n
  induction n using Nat.strongRecOn with
  | _ n ih =>
    intro l hn hb hl ho
    refine Tri.enter 49 Tryz.func53 rfl rfl rfl rfl fun Fr w0 => ?_
    repeat' (first
      | refine AW.seq ?_
      | (refine AW.region_at 0 ?_ <;> refine AL.e ?_ <;> refine AL.e ?_ <;> refine AL.nil ?_)
      | (refine AW.region_at 1 ?_ <;> refine AL.e ?_ <;> refine AL.e ?_ <;> refine AL.nil ?_)
      | (refine AW.region_at 2 ?_ <;> refine AL.e ?_ <;> refine AL.nil ?_)
      | refine AW.cond_true rfl ?_
      | refine AW.cond_false rfl ?_
      | refine AW.block ?_
      | refine AW.endblk ?_
      | refine AW.skip ?_
      | refine AW.exit rfl ?_
      | refine AW.label ?_
      | refine AW.j (fun hb => ?_) (fun hb => ?_))
    refine AW.prune [0, 4, 5, 6] (AW.loop (fun m af h => ∃ i a d : Nat, i ≤ l.length ∧ m = l.length - i ∧ af = [(0, .sl (l.map GStmt.av)), (4, .int .i64 a), (5, .int .i64 d), (6, .int .i64 i)] ∧ h = [] ∧ cntL l = a + cntL (l.drop i) ∧ depL l = max d (depL (l.drop i))) l.length ⟨0, 0, 0, Nat.zero_le _, rfl, rfl, rfl, by simp, by simp⟩ ?_)
    rintro m af h ⟨i, a, d, hi, rfl, rfl, rfl, he1, he2⟩
    refine AW.seq ?_
    by_cases hlt : i < l.length
    · obtain ⟨x, hx⟩ := get_lt hlt
      have hx' : (l.map GStmt.av)[((i : Nat) : Int).toNat]? = some x.st := GStmt.get hx
      have hxm := List.mem_of_getElem? hx
      have hxo := ho x hxm
      have hcx := cnt_mem hxm
      have hbo := okB hxo
      have hcs := cntS_eq x
      have hds := depS_eq x
      have hd := depL_le l
      have hd1 := depL_le x.Body
      have hd2 := depL_le x.Else
      have hB := ih (cntL x.Body) (by omega) x.Body (Nat.le_refl _) (by omega) hbo.1 hbo.2.1
      have hE := ih (cntL x.Else) (by omega) x.Else (Nat.le_refl _) (by omega) hbo.2.2.1 hbo.2.2.2
      rw [drop_cons hx, cntL] at he1
      rw [drop_cons hx, depL] at he2
      repeat' (first
        | refine AW.seq ?_
        | (refine AW.region_at 3 ?_ <;> refine AL.e ?_ <;> refine AL.e ?_ <;> refine AL.d AOp.ln ?_ <;> refine AL.e ?_ <;> refine AL.nil ?_)
        | (refine AW.region_at 5 ?_ <;> refine AL.e ?_ <;> refine AL.e ?_ <;> refine AL.d (AOp.index_sl rfl rfl (by omega) hx' (by kernel_rfl) rfl) ?_ <;> (first | refine AL.d AOp.fa ?_ | refine AL.d (AOp.fr 12) ?_) <;> refine AL.d AOp.la ?_ <;> (first | refine AL.d (AOp.call rfl rfl hB) ?_ | refine AL.d (AOp.call rfl rfl hE) ?_) <;> refine AL.e ?_ <;> refine AL.e ?_ <;> refine AL.e ?_ <;> refine AL.e ?_ <;> refine AL.e ?_ <;> refine AL.nil ?_)
        | (refine AW.region_at 6 ?_ <;> refine AL.e ?_ <;> refine AL.e ?_ <;> refine AL.d (AOp.index_sl rfl rfl (by omega) hx' (by kernel_rfl) rfl) ?_ <;> (first | refine AL.d AOp.fa ?_ | refine AL.d (AOp.fr 13) ?_) <;> refine AL.d AOp.la ?_ <;> (first | refine AL.d (AOp.call rfl rfl hB) ?_ | refine AL.d (AOp.call rfl rfl hE) ?_) <;> refine AL.e ?_ <;> refine AL.e ?_ <;> refine AL.e ?_ <;> refine AL.e ?_ <;> refine AL.e ?_ <;> refine AL.nil ?_)
        | (refine AW.region_at 7 ?_ <;> refine AL.e ?_ <;> refine AL.d AOp.ad ?_ <;> refine AL.e ?_ <;> refine AL.d AOp.ad ?_ <;> refine AL.e ?_ <;> refine AL.d AOp.ad ?_ <;> refine AL.e ?_ <;> refine AL.e ?_ <;> refine AL.d AOp.ad ?_ <;> refine AL.e ?_ <;> refine AL.d AOp.ad ?_ <;> (first | refine AL.d (AOp.max3 rfl rfl rfl) ?_ | refine AL.d (AOp.max2 rfl rfl) ?_) <;> refine AL.e ?_ <;> refine AL.e ?_ <;> refine AL.nil ?_)
        | (refine AW.region_at 4 ?_ <;> refine AL.e ?_ <;> refine AL.d AOp.ad ?_ <;> refine AL.e ?_ <;> refine AL.nil ?_)
        | refine AW.cond_true rfl ?_
        | refine AW.cond_false rfl ?_
        | refine AW.block ?_
        | refine AW.endblk ?_
        | refine AW.skip ?_
        | refine AW.exit rfl ?_
        | refine AW.label ?_
        | refine AW.j (fun hb => ?_) (fun hb => ?_))
      all_goals try (exfalso; simp only [decide_eq_true_eq, decide_eq_false_iff_not, List.length_map] at *; omega)
      refine AW.again_keep (l.length - (i + 1)) [0, 4, 5, 6] (by omega) ⟨i + 1, a + 1 + cntL x.Body + cntL x.Else, max (max d (depL x.Body + 1)) (depL x.Else + 1), hlt, rfl, ?_, rfl, by omega, by omega⟩
      have e1 : ((a + 1 + cntL x.Body + cntL x.Else : Nat) : Int) = (a : Int) + 1 + cntL x.Body + cntL x.Else := by omega
      have e2 : ((max (max d (depL x.Body + 1)) (depL x.Else + 1) : Nat) : Int) = max (max (d : Int) ((depL x.Body : Int) + 1)) ((depL x.Else : Int) + 1) := by omega
      rw [e1, e2]
      rfl
    · rw [List.drop_eq_nil_of_le (by omega)] at he1 he2
      repeat' (first
        | refine AW.seq ?_
        | (refine AW.region_at 3 ?_ <;> refine AL.e ?_ <;> refine AL.e ?_ <;> refine AL.d AOp.ln ?_ <;> refine AL.e ?_ <;> refine AL.nil ?_)
        | (refine AW.region_at 8 ?_ <;> refine AL.e ?_ <;> refine AL.e ?_ <;> refine AL.e ?_ <;> refine AL.e ?_ <;> refine AL.nil ?_)
        | refine AW.cond_true rfl ?_
        | refine AW.cond_false rfl ?_
        | refine AW.block ?_
        | refine AW.endblk ?_
        | refine AW.skip ?_
        | refine AW.exit rfl ?_
        | refine AW.label ?_
        | refine AW.j (fun hb => ?_) (fun hb => ?_))
      all_goals try (exfalso; simp only [decide_eq_true_eq, decide_eq_false_iff_not, List.length_map] at *; omega)
      simp only [cntL, depL] at he1 he2
      exact AW.retv rfl ⟨by rw [he1, he2]; simp, rfl⟩
end Go.Proofs.YtdedkpfbfklgbaaGreat
namespace Go.Proofs.YtdedkpfbfklgbaaGreat
open Go.RowKit Go.SX
set_option maxRecDepth 100000
set_option maxHeartbeats 4000000
set_option linter.unusedVariables false
set_option linter.unusedSimpArgs false

theorem ownT_len (A : Ar) (s : GStmt) : (ownT A s).length ≤ 1 := by unfold ownT; split <;> simp
mutual
theorem testsS_len (A : Ar) : ∀ (s : GStmt) (out : List GSym), (testsS A s out).length ≤ out.length + cntS s
  | ⟨k, f, g, r, n, nm, fr, lit, regs, body, els⟩, out => by
    rw [testsS, cntS]
    have h1 := testsL_len A body (out ++ ownT A ⟨k, f, g, r, n, nm, fr, lit, regs, body, els⟩)
    have h2 := testsL_len A els (testsL A body (out ++ ownT A ⟨k, f, g, r, n, nm, fr, lit, regs, body, els⟩))
    have h3 := ownT_len A ⟨k, f, g, r, n, nm, fr, lit, regs, body, els⟩
    rw [List.length_append] at h1
    omega
theorem testsL_len (A : Ar) : ∀ (l : List GStmt) (out : List GSym), (testsL A l out).length ≤ out.length + cntL l
  | [], out => Nat.le_refl _
  | s :: l, out => by
    rw [testsL, cntL]
    have h1 := testsS_len A s out
    have h2 := testsL_len A l (testsS A s out)
    omega
end
theorem testsS_eq (A : Ar) (s : GStmt) (out : List GSym) : testsS A s out = testsL A s.Else (testsL A s.Body (out ++ ownT A s)) := by cases s; rfl
theorem sym_sz (o : List GSym) : ∀ x ∈ o.map GSym.av, x.size = 2 := by
  intro x hx
  obtain ⟨y, _, rfl⟩ := List.mem_map.1 hx
  rfl
theorem ref_tests (c : GCode) (hc : c.Ok) : ∀ (n : Nat) (l : List GStmt) (hn : cntL l ≤ n) (hl : l.length ≤ 4611686018427387904) (ho : ∀ x ∈ l, x.Ok) (out : List GSym) (tb : Option Nat) (tc : Nat) (hout : out.length + cntL l ≤ 1000000),
    Tri Tryz.prog 55 [c.av, .sl (l.map GStmt.av), .slt (out.map GSym.av) tb tc] [.tail tb (out.map GSym.av).length tc 2]
      (fun x h => ∃ b' c', x = .ret (.slt ((testsL (arOf c.Arrays) l out).map GSym.av) b' c') ∧ h = [.tail b' ((testsL (arOf c.Arrays) l out).map GSym.av).length c' 2]) := by
  have hal : c.Arrays.length ≤ 4611686018427387904 := by have := hc.2.2.1.1; omega
  generalize hA : arOf c.Arrays = A
  intro n
  induction n using Nat.strongRecOn with
  | _ n ih =>
    intro l hn hl ho out tb tc hout
    refine Tri.enter 64 Tryz.func55 rfl rfl rfl rfl fun Fr w0 => ?_
    repeat' (first
      | refine AW.seq ?_
      | (refine AW.region_at 0 ?_ <;> (first | refine AL.d (AOp.box_ro rfl rfl) ?_ | refine AL.d (AOp.box_ro rfl rfl) ?_) <;> (first | refine AL.e ?_ | refine AL.d AOp.assign_nil ?_) <;> refine AL.nil ?_)
      | (refine AW.region_at 1 ?_ <;> (first | refine AL.e ?_ | refine AL.d AOp.assign_nil ?_) <;> refine AL.nil ?_)
      | refine AW.cond_true rfl ?_
      | refine AW.cond_false rfl ?_
      | refine AW.block ?_
      | refine AW.endblk ?_
      | refine AW.skip ?_
      | refine AW.exit rfl ?_
      | refine AW.label ?_
      | refine AW.j (fun hb => ?_) (fun hb => ?_))
    refine AW.prune [1, 2, 3, 7] (AW.loop (fun m af h => ∃ (i : Nat) (o : List GSym) (tb : Option Nat) (tc : Nat), i ≤ l.length ∧ m = l.length - i ∧ af = [(1, .sl (l.map GStmt.av)), (2, .slt (o.map GSym.av) tb tc), (3, .at c.av), (7, .int .i64 i)] ∧ h = [.tail tb (o.map GSym.av).length tc 2] ∧ testsL A l out = testsL A (l.drop i) o ∧ o.length + cntL (l.drop i) ≤ 1000000) l.length ⟨0, out, tb, tc, Nat.zero_le _, rfl, rfl, rfl, rfl, hout⟩ ?_)
    rintro m af h ⟨i, o, tb, tc, hi, rfl, rfl, rfl, he, hle⟩
    refine AW.seq ?_
    by_cases hlt : i < l.length
    · obtain ⟨x, hx⟩ := get_lt hlt
      have hx' : (l.map GStmt.av)[((i : Nat) : Int).toNat]? = some x.st := GStmt.get hx
      have hxm := List.mem_of_getElem? hx
      have hxo := ho x hxm
      have hcx := cnt_mem hxm
      have hbo := okB hxo
      have hcs := cntS_eq x
      have hB := ih (cntL x.Body) (by omega) x.Body (Nat.le_refl _) hbo.1 hbo.2.1
      have hE := ih (cntL x.Else) (by omega) x.Else (Nat.le_refl _) hbo.2.2.1 hbo.2.2.2
      rw [drop_cons hx, testsL, testsS_eq] at he
      rw [drop_cons hx, cntL] at hle
      have hOk := hxo
      obtain ⟨⟨_, _, _, _, _, _, _, hLit, _⟩, _⟩ := hOk
      have hLs := hLit.2.1
      have hF := ref_find c.Arrays x.Lit.Name hal
      repeat' (first
        | refine AW.seq ?_
        | (refine AW.region_at 2 ?_ <;> refine AL.e ?_ <;> refine AL.e ?_ <;> refine AL.d AOp.ln ?_ <;> refine AL.e ?_ <;> refine AL.nil ?_)
        | (refine AW.region_at 4 ?_ <;> refine AL.e ?_ <;> refine AL.e ?_ <;> refine AL.d (AOp.index_sl rfl rfl (by omega) hx' (by kernel_rfl) rfl) ?_ <;> (first | refine AL.d AOp.fa ?_ | refine AL.d (AOp.fr 7) ?_) <;> refine AL.d AOp.la ?_ <;> refine AL.alloc_store (by kernel_rfl) rfl rfl rfl rfl ?_ <;> refine AL.nil ?_)
        | refine AW.cond_true rfl ?_
        | refine AW.cond_false rfl ?_
        | refine AW.block ?_
        | refine AW.endblk ?_
        | refine AW.skip ?_
        | refine AW.exit rfl ?_
        | refine AW.label ?_
        | refine AW.j (fun hb => ?_) (fun hb => ?_))
      all_goals try (exfalso; simp only [decide_eq_true_eq, decide_eq_false_iff_not, List.length_map] at *; omega)
      refine AW.prune [1, 2, 3, 7, 8] ?_
      refine AW.cut (fun af ah => ∃ v : Bool, af = [(1, .sl (l.map GStmt.av)), (2, .slt (o.map GSym.av) tb tc), (3, .at c.av), (7, .int .i64 i), (8, .at x.Lit.av), (38, .bool v)] ∧ ah = [.tail tb (o.map GSym.av).length tc 2] ∧ v = decide (x.Kind = 0 ∧ x.Lit.Kind = 0 ∧ A x.Lit.Name = none)) ?_ ?_
      · repeat' (first
          | refine AW.seq ?_
          | (refine AW.region_at 5 ?_ <;> refine AL.e ?_ <;> refine AL.e ?_ <;> refine AL.d (AOp.index_sl rfl rfl (by omega) hx' (by kernel_rfl) rfl) ?_ <;> (first | refine AL.d AOp.fa ?_ | refine AL.d (AOp.fr 0) ?_) <;> refine AL.d AOp.la ?_ <;> refine AL.e ?_ <;> refine AL.e ?_ <;> (first | (refine AL.gd ?_; (first | refine AL.d AOp.fa ?_ | refine AL.d (AOp.fr 0) ?_)) | refine AL.gs ?_ | refine AL.gu ?_ | (refine AL.gx (fun hb => ?_) (fun hb => ?_) <;> first | (refine AL.gd ?_; (first | refine AL.d AOp.fa ?_ | refine AL.d (AOp.fr 0) ?_)) | refine AL.gs ?_)) <;> (first | (refine AL.gd ?_; refine AL.d AOp.la ?_) | refine AL.gs ?_ | refine AL.gu ?_) <;> (first | (refine AL.gd ?_; refine AL.e ?_) | refine AL.gs ?_ | refine AL.gu ?_) <;> refine AL.e ?_ <;> refine AL.e ?_ <;> (first | (refine AL.gd ?_; (first | refine AL.d AOp.fa ?_ | refine AL.d (AOp.fr 2) ?_)) | refine AL.gs ?_ | refine AL.gu ?_ | (refine AL.gx (fun hb => ?_) (fun hb => ?_) <;> first | (refine AL.gd ?_; (first | refine AL.d AOp.fa ?_ | refine AL.d (AOp.fr 2) ?_)) | refine AL.gs ?_)) <;> (first | (refine AL.gd ?_; refine AL.d AOp.la ?_) | refine AL.gs ?_ | refine AL.gu ?_) <;> (first | (refine AL.gd ?_; (first | refine AL.d AOp.fa ?_ | refine AL.d (AOp.fr 2) ?_)) | refine AL.gs ?_ | refine AL.gu ?_) <;> (first | (refine AL.gd ?_; refine AL.d AOp.la ?_) | refine AL.gs ?_ | refine AL.gu ?_) <;> (first | (refine AL.gd ?_; refine AL.d (AOp.call rfl rfl (hF.pure _)) ?_) | refine AL.gs ?_ | refine AL.gu ?_) <;> (first | (refine AL.gd ?_; refine AL.e ?_) | refine AL.gs ?_ | refine AL.gu ?_) <;> refine AL.e ?_ <;> refine AL.nil ?_)
          | refine AW.cond_true rfl ?_
          | refine AW.cond_false rfl ?_
          | refine AW.block ?_
          | refine AW.endblk ?_
          | refine AW.skip ?_
          | refine AW.exit rfl ?_
          | refine AW.label ?_
          | refine AW.j (fun hb => ?_) (fun hb => ?_))
        all_goals (refine AW.meet [1, 2, 3, 7, 8, 38] ⟨_, rfl, rfl, ?_⟩; clear hB hE ih hF he; simp only [beq_iff_eq, beq_eq_false_iff_ne, ne_eq] at *; simp_all [ofConst])
        rw [← hA]
        rcases findJ_spec x.Lit.Name c.Arrays 0 with ⟨e1, e2⟩ | ⟨k, a, e1, -, -, e2⟩
        · rw [e1, e2]; simp
        · rw [e1, e2]; simp
      rintro af ah ⟨v, rfl, rfl, hv⟩
      refine AW.cut (fun af ah => ∃ (tb' : Option Nat) (tc' : Nat), af = [(1, .sl (l.map GStmt.av)), (2, .slt ((o ++ ownT A x).map GSym.av) tb' tc'), (3, .at c.av), (7, .int .i64 i)] ∧ ah = [.tail tb' ((o ++ ownT A x).map GSym.av).length tc' 2]) ?_ ?_
      · repeat' (first
          | refine AW.seq ?_
          | (refine AW.region_at 6 ?_ <;> refine AL.e ?_ <;> (first | refine AL.d AOp.fa ?_ | refine AL.d (AOp.fr 2) ?_) <;> refine AL.d AOp.la ?_ <;> (first | refine AL.d AOp.fa ?_ | refine AL.d (AOp.fr 3) ?_) <;> refine AL.d AOp.la ?_ <;> refine AL.d AOp.ln ?_ <;> refine AL.d (AOp.build (pl := [(0, 1), (1, 1)]) (z := .st [.str ⟨#[]⟩, .int .i64 0]) (by kernel_rfl) rfl rfl rfl) ?_ <;> refine AL.d (AOp.lit (e := 74) (sz := 2) (by kernel_rfl) rfl rfl rfl (by simp [AV.size, AV.sizes]) (by decide)) ?_ <;> refine AL.append (i := 0) (xs := o.map GSym.av) (e := 74) (sz := 2) (bytes := 24) rfl rfl rfl rfl (by kernel_rfl) (by kernel_rfl) (sym_sz o) (by simp [AV.size, AV.sizes]) rfl (by simp only [List.length_map]; simp; omega) (by simp only [List.length_map]; simp; omega) rfl fun b' c' => ?_ <;> refine AL.e ?_ <;> refine AL.nil ?_)
          | refine AW.cond_true rfl ?_
          | refine AW.cond_false rfl ?_
          | refine AW.block ?_
          | refine AW.endblk ?_
          | refine AW.skip ?_
          | refine AW.exit rfl ?_
          | refine AW.label ?_
          | refine AW.j (fun hb => ?_) (fun hb => ?_))
        · have e1 : ownT A x = [⟨x.Lit.Name, x.Lit.At.length⟩] := by rw [hb] at hv; unfold ownT; rw [if_pos (of_decide_eq_true hv.symm)]
          have e2 : (o ++ ownT A x).map GSym.av = o.map GSym.av ++ [.st [.str x.Lit.Name, .int .i64 (x.Lit.At.map iav).length]] := by rw [e1]; simp [GSym.av]
          refine AW.meet [1, 2, 3, 7] ⟨b', c', ?_, ?_⟩
          · rw [e2]; rfl
          · rw [e2]; rfl
        · have e1 : ownT A x = [] := by rw [hb] at hv; unfold ownT; rw [if_neg (of_decide_eq_false hv.symm)]
          refine AW.meet [1, 2, 3, 7] ⟨tb, tc, ?_, ?_⟩
          · rw [e1, List.append_nil]; rfl
          · rw [e1, List.append_nil]
      rintro af ah ⟨tb', tc', rfl, rfl⟩
      have hln := ownT_len A x
      refine AW.explore [true] [13, 14, 15] rfl (by kernel_rfl) (by kernel_rfl) (by kernel_rfl) (by kernel_rfl) ?_
      repeat' (first
        | refine AQE.hole rfl rfl ?_
        | refine AQE.ev rfl rfl rfl rfl ?_
        | refine AQE.op rfl (AOp.index_sl rfl rfl (by omega) hx' (by kernel_rfl) rfl) rfl rfl ?_
        | refine AQE.op rfl (AOp.field_at rfl rfl (by kernel_rfl) rfl) rfl rfl ?_
        | refine AQE.op rfl (AOp.load_at rfl rfl (by kernel_rfl)) rfl rfl ?_
        | refine AQE.nil ?_)
      refine AX.one (n := 2) 13 rfl ?_
      refine AXS.step (i := 13) rfl rfl rfl (AOp.call rfl rfl (hB (o ++ ownT A x) tb' tc' (by rw [List.length_append]; omega))) ?_ (by rintro _ _ ⟨_, _, e, _⟩; cases e)
      rintro _ _ ⟨b1, c1, e, rfl⟩
      injection e with e
      subst e
      dsimp only [List.set_cons_succ, List.set_cons_zero]
      have hl1 := testsL_len A x.Body (o ++ ownT A x)
      rw [List.length_append] at hl1
      refine AX.one (n := 1) 14 rfl ?_
      refine AXS.step (i := 14) rfl rfl rfl (AOp.call rfl rfl (hE (testsL A x.Body (o ++ ownT A x)) b1 c1 (by omega))) ?_ (by rintro _ _ ⟨_, _, e, _⟩; cases e)
      rintro _ _ ⟨b2, c2, e, rfl⟩
      injection e with e
      subst e
      dsimp only [List.set_cons_succ, List.set_cons_zero]
      have hl2 := testsL_len A x.Else (testsL A x.Body (o ++ ownT A x))
      refine AX.one (n := 0) 15 rfl ?_
      refine AXS.det (i := 15) rfl rfl rfl (AOp.ev rfl) ?_
      dsimp only [List.set_cons_succ, List.set_cons_zero]
      refine AX.done [(1, .sl (l.map GStmt.av)), (2, .slt ((testsL A x.Else (testsL A x.Body (o ++ ownT A x))).map GSym.av) b2 c2), (3, .at c.av), (7, .int .i64 i)] rfl ?_
      repeat' (first
        | refine AW.seq ?_
        | (refine AW.region_at 3 ?_ <;> refine AL.e ?_ <;> refine AL.d AOp.ad ?_ <;> refine AL.e ?_ <;> refine AL.nil ?_)
        | refine AW.cond_true rfl ?_
        | refine AW.cond_false rfl ?_
        | refine AW.block ?_
        | refine AW.endblk ?_
        | refine AW.skip ?_
        | refine AW.exit rfl ?_
        | refine AW.label ?_
        | refine AW.j (fun hb => ?_) (fun hb => ?_))
      exact AW.again_keep (l.length - (i + 1)) [1, 2, 3, 7] (by omega) ⟨i + 1, _, b2, c2, hlt, rfl, rfl, rfl, he, by omega⟩
    · rw [List.drop_eq_nil_of_le (by omega), testsL] at he
      repeat' (first
        | refine AW.seq ?_
        | (refine AW.region_at 2 ?_ <;> refine AL.e ?_ <;> refine AL.e ?_ <;> refine AL.d AOp.ln ?_ <;> refine AL.e ?_ <;> refine AL.nil ?_)
        | (refine AW.region_at 8 ?_ <;> refine AL.e ?_ <;> refine AL.e ?_ <;> refine AL.nil ?_)
        | refine AW.cond_true rfl ?_
        | refine AW.cond_false rfl ?_
        | refine AW.block ?_
        | refine AW.endblk ?_
        | refine AW.skip ?_
        | refine AW.exit rfl ?_
        | refine AW.label ?_
        | refine AW.j (fun hb => ?_) (fun hb => ?_))
      all_goals try (exfalso; simp only [decide_eq_true_eq, decide_eq_false_iff_not, List.length_map] at *; omega)
      subst he
      exact AW.retv rfl ⟨_, _, rfl, rfl⟩
end Go.Proofs.YtdedkpfbfklgbaaGreat
