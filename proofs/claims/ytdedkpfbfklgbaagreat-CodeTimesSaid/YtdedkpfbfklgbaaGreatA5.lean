/- Contracts of the functions, part 5. -/
import Derived.Test.YtdedkpfbfklgbaaGreatA4
import Derived.Test.YtdedkpfbfklgbaaGreatA4
import Derived.Test.YtdedkpfbfklgbaaGreatS2
import Derived.Test.YtdedkpfbfklgbaaGreatA3
import Derived.Test.YtdedkpfbfklgbaaGreatA1
import Derived.Test.YtdedkpfbfklgbaaGreatProg
namespace Go.Proofs.YtdedkpfbfklgbaaGreat
open Go.RowKit Go.SX
set_option maxRecDepth 100000
set_option maxHeartbeats 4000000
set_option linter.unusedVariables false
set_option linter.unusedSimpArgs false

def pw (n : Int) : Nat → Int → Int
  | 0, p => p
  | k + 1, p => pw n k (min (p * n) 1099511627777)
theorem pw_bd {n : Int} (hn : 1 ≤ n ∧ n ≤ 64) : ∀ (k : Nat) (p : Int), 0 ≤ p → p ≤ 1099511627777 → 0 ≤ pw n k p ∧ pw n k p ≤ 1099511627777
  | 0, p, h1, h2 => ⟨h1, h2⟩
  | k + 1, p, h1, h2 => by
    have m1 : 0 ≤ p * n := Int.mul_nonneg h1 (by omega)
    exact pw_bd hn k _ (by omega) (by omega)
theorem code_power (n k : Int) (hn : 1 ≤ n ∧ n ≤ 64) (hk : 0 ≤ k ∧ k ≤ 12) : Tri Tryz.prog 45 [.int .i64 n, .int .i64 k] [] (D (.int .i64 (pw n k.toNat 1)) []) := by
  refine Tri.enter 15 Tryz.func45 rfl rfl rfl rfl fun Fr w0 => ?_
  repeat' (first
    | refine AW.seq ?_
    | (refine AW.region_at 0 ?_ <;> refine AL.e ?_ <;> refine AL.nil ?_)
    | (refine AW.region_at 1 ?_ <;> refine AL.e ?_ <;> refine AL.nil ?_)
    | (refine AW.region_at 2 ?_ <;> refine AL.e ?_ <;> refine AL.e ?_ <;> refine AL.nil ?_)
    | refine AW.cond_true rfl ?_
    | refine AW.cond_false rfl ?_
    | refine AW.block ?_
    | refine AW.endblk ?_
    | refine AW.skip ?_
    | refine AW.exit rfl ?_
    | refine AW.label ?_
    | refine AW.j (fun hb => ?_) (fun hb => ?_))
  refine AW.prune [0, 5, 6, 7] (AW.loop (fun m af h => ∃ (i : Nat) (p : Int), (i : Int) ≤ k ∧ m = k.toNat - i ∧ af = [(0, .int .i64 n), (5, .int .i64 p), (6, .int .i64 k), (7, .int .i64 i)] ∧ h = [] ∧ 0 ≤ p ∧ p ≤ 1099511627777 ∧ pw n k.toNat 1 = pw n (k.toNat - i) p) k.toNat ⟨0, 1, by omega, rfl, rfl, rfl, by omega, by omega, rfl⟩ ?_)
  rintro m af h ⟨i, p, hi, rfl, rfl, rfl, h1, h2, he⟩
  refine AW.seq ?_
  by_cases hlt : (i : Int) < k
  · have m1 : 0 ≤ p * n := Int.mul_nonneg h1 (by omega)
    have m2 : p * n ≤ 1099511627777 * 64 := Int.mul_le_mul h2 hn.2 (by omega) (by omega)
    rw [show k.toNat - i = (k.toNat - (i + 1)) + 1 by omega, pw] at he
    repeat' (first
      | refine AW.seq ?_
      | (refine AW.region_at 3 ?_ <;> (first | refine AL.e ?_ | refine AL.d (AOp.mul rfl rfl (by omega)) ?_) <;> refine AL.nil ?_)
      | (refine AW.region_at 4 ?_ <;> refine AL.e ?_ <;> refine AL.e ?_ <;> refine AL.d (AOp.mul rfl rfl (by omega)) ?_ <;> refine AL.d (AOp.min2 rfl rfl) ?_ <;> refine AL.e ?_ <;> refine AL.nil ?_)
      | (refine AW.region_at 5 ?_ <;> (first | refine AL.d (AOp.mul rfl rfl (by omega)) ?_ | refine AL.d AOp.ad ?_) <;> refine AL.e ?_ <;> refine AL.nil ?_)
      | refine AW.cond_true rfl ?_
      | refine AW.cond_false rfl ?_
      | refine AW.block ?_
      | refine AW.endblk ?_
      | refine AW.skip ?_
      | refine AW.exit rfl ?_
      | refine AW.label ?_
      | refine AW.j (fun hb => ?_) (fun hb => ?_))
    all_goals first
      | (exfalso; simp only [decide_eq_true_eq, decide_eq_false_iff_not] at *; omega)
      | exact AW.again_keep (k.toNat - (i + 1)) [0, 5, 6, 7] (by omega) ⟨i + 1, _, by omega, rfl, rfl, rfl, by omega, by omega, he⟩
  · rw [show k.toNat - i = 0 by omega, pw] at he
    repeat' (first
      | refine AW.seq ?_
      | (refine AW.region_at 3 ?_ <;> refine AL.e ?_ <;> refine AL.nil ?_)
      | (refine AW.region_at 6 ?_ <;> refine AL.e ?_ <;> refine AL.e ?_ <;> refine AL.nil ?_)
      | refine AW.cond_true rfl ?_
      | refine AW.cond_false rfl ?_
      | refine AW.block ?_
      | refine AW.endblk ?_
      | refine AW.skip ?_
      | refine AW.exit rfl ?_
      | refine AW.label ?_
      | refine AW.j (fun hb => ?_) (fun hb => ?_))
    all_goals first
      | (exfalso; simp only [decide_eq_true_eq, decide_eq_false_iff_not] at *; omega)
      | exact AW.retv rfl ⟨by rw [he], rfl⟩
theorem ref_power (n k : Int) (hn : 1 ≤ n ∧ n ≤ 64) (hk : 0 ≤ k ∧ k ≤ 12) : Tri Tryz.prog 58 [.int .i64 n, .int .i64 k] [] (D (.int .i64 (pw n k.toNat 1)) []) := by
  refine Tri.enter 17 Tryz.func58 rfl rfl rfl rfl fun Fr w0 => ?_
  repeat' (first
    | refine AW.seq ?_
    | (refine AW.region_at 0 ?_ <;> refine AL.e ?_ <;> refine AL.nil ?_)
    | (refine AW.region_at 1 ?_ <;> refine AL.e ?_ <;> refine AL.nil ?_)
    | (refine AW.region_at 2 ?_ <;> refine AL.e ?_ <;> refine AL.nil ?_)
    | refine AW.cond_true rfl ?_
    | refine AW.cond_false rfl ?_
    | refine AW.block ?_
    | refine AW.endblk ?_
    | refine AW.skip ?_
    | refine AW.exit rfl ?_
    | refine AW.label ?_
    | refine AW.j (fun hb => ?_) (fun hb => ?_))
  refine AW.prune [0, 1, 5, 6] (AW.loop (fun m af h => ∃ (i : Nat) (p : Int), (i : Int) ≤ k ∧ m = k.toNat - i ∧ af = [(0, .int .i64 n), (1, .int .i64 k), (5, .int .i64 p), (6, .int .i64 i)] ∧ h = [] ∧ 0 ≤ p ∧ p ≤ 1099511627777 ∧ pw n k.toNat 1 = pw n (k.toNat - i) p) k.toNat ⟨0, 1, by omega, rfl, rfl, rfl, by omega, by omega, rfl⟩ ?_)
  rintro m af h ⟨i, p, hi, rfl, rfl, rfl, h1, h2, he⟩
  refine AW.seq ?_
  by_cases hlt : (i : Int) < k
  · have m1 : 0 ≤ p * n := Int.mul_nonneg h1 (by omega)
    have m2 : p * n ≤ 1099511627777 * 64 := Int.mul_le_mul h2 hn.2 (by omega) (by omega)
    rw [show k.toNat - i = (k.toNat - (i + 1)) + 1 by omega, pw] at he
    repeat' (first
      | refine AW.seq ?_
      | (refine AW.region_at 3 ?_ <;> refine AL.e ?_ <;> refine AL.e ?_ <;> (first | refine AL.e ?_ | refine AL.d (AOp.mul rfl rfl (by omega)) ?_) <;> refine AL.nil ?_)
      | (refine AW.region_at 5 ?_ <;> refine AL.e ?_ <;> refine AL.e ?_ <;> refine AL.d (AOp.mul rfl rfl (by omega)) ?_ <;> refine AL.d (AOp.min2 rfl rfl) ?_ <;> refine AL.e ?_ <;> refine AL.nil ?_)
      | (refine AW.region_at 4 ?_ <;> refine AL.e ?_ <;> (first | refine AL.d (AOp.mul rfl rfl (by omega)) ?_ | refine AL.d AOp.ad ?_) <;> refine AL.e ?_ <;> refine AL.nil ?_)
      | refine AW.cond_true rfl ?_
      | refine AW.cond_false rfl ?_
      | refine AW.block ?_
      | refine AW.endblk ?_
      | refine AW.skip ?_
      | refine AW.exit rfl ?_
      | refine AW.label ?_
      | refine AW.j (fun hb => ?_) (fun hb => ?_))
    all_goals first
      | (exfalso; simp only [decide_eq_true_eq, decide_eq_false_iff_not] at *; omega)
      | exact AW.again_keep (k.toNat - (i + 1)) [0, 1, 5, 6] (by omega) ⟨i + 1, _, by omega, rfl, rfl, rfl, by omega, by omega, he⟩
  · rw [show k.toNat - i = 0 by omega, pw] at he
    repeat' (first
      | refine AW.seq ?_
      | (refine AW.region_at 3 ?_ <;> refine AL.e ?_ <;> refine AL.e ?_ <;> refine AL.e ?_ <;> refine AL.nil ?_)
      | (refine AW.region_at 6 ?_ <;> refine AL.e ?_ <;> refine AL.e ?_ <;> refine AL.nil ?_)
      | refine AW.cond_true rfl ?_
      | refine AW.cond_false rfl ?_
      | refine AW.block ?_
      | refine AW.endblk ?_
      | refine AW.skip ?_
      | refine AW.exit rfl ?_
      | refine AW.label ?_
      | refine AW.j (fun hb => ?_) (fun hb => ?_))
    all_goals first
      | (exfalso; simp only [decide_eq_true_eq, decide_eq_false_iff_not] at *; omega)
      | exact AW.retv rfl ⟨by rw [he], rfl⟩
def totR (n : Int) : Int × Int := if n > 1099511627776 then (0, 5) else (n, 0)
theorem code_total (n : Int) : Tri Tryz.prog 46 [.int .i64 n] [] (D (.tup [.int .i64 (totR n).1, .int .i64 (totR n).2]) []) := by
  unfold totR
  refine Tri.enter 7 Tryz.func46 rfl rfl rfl rfl fun Fr w0 => ?_
  repeat' (first
    | refine AW.seq ?_
    | (refine AW.region_at 0 ?_ <;> refine AL.e ?_ <;> refine AL.e ?_ <;> refine AL.nil ?_)
    | (refine AW.region_at 1 ?_ <;> refine AL.e ?_ <;> refine AL.e ?_ <;> refine AL.nil ?_)
    | (refine AW.region_at 2 ?_ <;> refine AL.e ?_ <;> refine AL.e ?_ <;> refine AL.nil ?_)
    | (refine AW.region_at 3 ?_ <;> refine AL.e ?_ <;> refine AL.e ?_ <;> refine AL.e ?_ <;> refine AL.nil ?_)
    | refine AW.cond_true rfl ?_
    | refine AW.cond_false rfl ?_
    | refine AW.block ?_
    | refine AW.endblk ?_
    | refine AW.skip ?_
    | refine AW.exit rfl ?_
    | refine AW.label ?_
    | refine AW.j (fun hb => ?_) (fun hb => ?_))
  · rw [if_pos (by simpa using hb)]; exact AW.retv rfl ⟨rfl, rfl⟩
  · rw [if_neg (by simpa using hb)]; exact AW.retv rfl ⟨rfl, rfl⟩
def cellsGo (n : Int) : List GSym → Int → Int
  | [], s => s
  | a :: l, s => cellsGo n l (min (s + pw n a.Arity.toNat 1) 1099511627777)
def cellsN (c : GCode) (n : Int) : Int := cellsGo n c.Arrays (c.Flags + c.Regs)
def cellsR (c : GCode) (n : Int) : Int × Int := if (checkedP c).bad = true then (0, 1) else if n < 1 ∨ n > 64 then (0, 2) else totR (cellsN c n)
theorem ref_Cells (c : GCode) (hc : c.Ok) (hb : (checkedP c).bad = false) (n : Int) (hn : 1 ≤ n ∧ n ≤ 64) : Tri Tryz.prog 19 [c.av, .int .i64 n] [] (D (.int .i64 (cellsN c n)) []) := by
  have hk := chk_ok hb
  have hfl := hk.flags
  have hrg := hk.regs
  have hal : c.Arrays.length ≤ 4611686018427387904 := by have := hc.2.2.1.1; omega
  refine Tri.enter 31 Tryz.func19 rfl rfl rfl rfl fun Fr w0 => ?_
  repeat' (first
    | refine AW.seq ?_
    | (refine AW.region_at 0 ?_ <;> (first | refine AL.d (AOp.box_ro rfl rfl) ?_ | refine AL.d (AOp.box_ro rfl rfl) ?_) <;> refine AL.e ?_ <;> refine AL.nil ?_)
    | (refine AW.region_at 1 ?_ <;> (first | refine AL.d AOp.fa ?_ | refine AL.d (AOp.fr 0) ?_) <;> refine AL.d AOp.la ?_ <;> (first | refine AL.d AOp.fa ?_ | refine AL.d (AOp.fr 1) ?_) <;> refine AL.d AOp.la ?_ <;> refine AL.d AOp.ad ?_ <;> refine AL.e ?_ <;> refine AL.nil ?_)
    | (refine AW.region_at 2 ?_ <;> refine AL.e ?_ <;> refine AL.nil ?_)
    | refine AW.cond_true rfl ?_
    | refine AW.cond_false rfl ?_
    | refine AW.block ?_
    | refine AW.endblk ?_
    | refine AW.skip ?_
    | refine AW.exit rfl ?_
    | refine AW.label ?_
    | refine AW.j (fun hb => ?_) (fun hb => ?_))
  refine AW.prune [1, 2, 5, 6] (AW.loop (fun m af h => ∃ (i : Nat) (s : Int), i ≤ c.Arrays.length ∧ m = c.Arrays.length - i ∧ af = [(1, .int .i64 n), (2, .at c.av), (5, .int .i64 s), (6, .int .i64 i)] ∧ h = [] ∧ 0 ≤ s ∧ s ≤ 1099511627777 ∧ cellsN c n = cellsGo n (c.Arrays.drop i) s) c.Arrays.length ⟨0, c.Flags + c.Regs, Nat.zero_le _, rfl, rfl, rfl, by omega, by omega, rfl⟩ ?_)
  rintro m af h ⟨i, s, hi, rfl, rfl, rfl, h1, h2, he⟩
  refine AW.seq ?_
  by_cases hlt : i < c.Arrays.length
  · obtain ⟨x, hx⟩ := get_lt hlt
    have hx' : (c.Arrays.map GSym.av)[((i : Nat) : Int).toNat]? = some x.av := map_get hx
    have hxa := hk.ar x (List.mem_of_getElem? hx)
    have hP := ref_power n x.Arity hn hxa
    have hpb := pw_bd hn x.Arity.toNat 1 (by omega) (by omega)
    rw [drop_cons hx, cellsGo] at he
    repeat' (first
      | refine AW.seq ?_
      | (refine AW.region_at 3 ?_ <;> refine AL.e ?_ <;> (first | refine AL.d AOp.fa ?_ | refine AL.d (AOp.fr 2) ?_) <;> refine AL.d AOp.la ?_ <;> refine AL.d AOp.ln ?_ <;> refine AL.e ?_ <;> refine AL.nil ?_)
      | (refine AW.region_at 5 ?_ <;> refine AL.e ?_ <;> refine AL.e ?_ <;> (first | refine AL.d AOp.fa ?_ | refine AL.d (AOp.fr 2) ?_) <;> refine AL.d AOp.la ?_ <;> refine AL.e ?_ <;> refine AL.d (AOp.index_sl rfl rfl (by omega) hx' (by kernel_rfl) rfl) ?_ <;> (first | refine AL.d AOp.fa ?_ | refine AL.d (AOp.fr 1) ?_) <;> refine AL.d AOp.la ?_ <;> refine AL.d (AOp.call rfl rfl hP) ?_ <;> refine AL.d AOp.ad ?_ <;> refine AL.d (AOp.min2 rfl rfl) ?_ <;> refine AL.e ?_ <;> refine AL.nil ?_)
      | (refine AW.region_at 4 ?_ <;> refine AL.e ?_ <;> refine AL.d AOp.ad ?_ <;> refine AL.e ?_ <;> refine AL.nil ?_)
      | refine AW.cond_true rfl ?_
      | refine AW.cond_false rfl ?_
      | refine AW.block ?_
      | refine AW.endblk ?_
      | refine AW.skip ?_
      | refine AW.exit rfl ?_
      | refine AW.label ?_
      | refine AW.j (fun hb => ?_) (fun hb => ?_))
    all_goals first
      | (exfalso; simp only [decide_eq_true_eq, decide_eq_false_iff_not, List.length_map] at *; omega)
      | exact AW.again_keep (c.Arrays.length - (i + 1)) [1, 2, 5, 6] (by omega) ⟨i + 1, _, hlt, rfl, rfl, rfl, by omega, by omega, he⟩
  · rw [List.drop_eq_nil_of_le (by omega), cellsGo] at he
    repeat' (first
      | refine AW.seq ?_
      | (refine AW.region_at 3 ?_ <;> refine AL.e ?_ <;> (first | refine AL.d AOp.fa ?_ | refine AL.d (AOp.fr 2) ?_) <;> refine AL.d AOp.la ?_ <;> refine AL.d AOp.ln ?_ <;> refine AL.e ?_ <;> refine AL.nil ?_)
      | (refine AW.region_at 6 ?_ <;> refine AL.e ?_ <;> refine AL.e ?_ <;> refine AL.nil ?_)
      | refine AW.cond_true rfl ?_
      | refine AW.cond_false rfl ?_
      | refine AW.block ?_
      | refine AW.endblk ?_
      | refine AW.skip ?_
      | refine AW.exit rfl ?_
      | refine AW.label ?_
      | refine AW.j (fun hb => ?_) (fun hb => ?_))
    all_goals first
      | (exfalso; simp only [decide_eq_true_eq, decide_eq_false_iff_not, List.length_map] at *; omega)
      | exact AW.retv rfl ⟨by rw [he], rfl⟩
theorem code_Cells (c : GCode) (hc : c.Ok) (n : Int) : Tri Tryz.prog 12 [c.av, .int .i64 n] [] (D (.tup [.int .i64 (cellsR c n).1, .int .i64 (cellsR c n).2]) []) := by
  have hV := code_Valid c hc
  have hal : c.Arrays.length ≤ 4611686018427387904 := by have := hc.2.2.1.1; omega
  unfold cellsR
  by_cases hb : (checkedP c).bad = true
  · rw [if_pos hb]
    rw [hb] at hV
    refine Tri.enter 42 Tryz.func12 rfl rfl rfl rfl fun Fr w0 => ?_
    repeat' (first
      | refine AW.seq ?_
      | (refine AW.region_at 0 ?_ <;> (first | refine AL.d (AOp.box_ro rfl rfl) ?_ | refine AL.d (AOp.box_ro rfl rfl) ?_) <;> refine AL.e ?_ <;> refine AL.e ?_ <;> refine AL.nil ?_)
      | (refine AW.region_at 1 ?_ <;> refine AL.d AOp.la ?_ <;> refine AL.d (AOp.call rfl rfl hV) ?_ <;> refine AL.e ?_ <;> refine AL.nil ?_)
      | (refine AW.region_at 2 ?_ <;> refine AL.e ?_ <;> refine AL.e ?_ <;> refine AL.nil ?_)
      | refine AW.cond_true rfl ?_
      | refine AW.cond_false rfl ?_
      | refine AW.block ?_
      | refine AW.endblk ?_
      | refine AW.skip ?_
      | refine AW.exit rfl ?_
      | refine AW.label ?_
      | refine AW.j (fun hb => ?_) (fun hb => ?_))
    exact AW.retv rfl ⟨rfl, rfl⟩
  · have hb' : (checkedP c).bad = false := by simpa using hb
    rw [if_neg hb]
    rw [hb'] at hV
    have hk := chk_ok hb'
    have hfl := hk.flags
    have hrg := hk.regs
    by_cases hn : n < 1 ∨ n > 64
    · rw [if_pos hn]
      refine Tri.enter 42 Tryz.func12 rfl rfl rfl rfl fun Fr w0 => ?_
      repeat' (first
        | refine AW.seq ?_
        | (refine AW.region_at 0 ?_ <;> (first | refine AL.d (AOp.box_ro rfl rfl) ?_ | refine AL.d (AOp.box_ro rfl rfl) ?_) <;> refine AL.e ?_ <;> refine AL.e ?_ <;> refine AL.nil ?_)
        | (refine AW.region_at 1 ?_ <;> refine AL.d AOp.la ?_ <;> refine AL.d (AOp.call rfl rfl hV) ?_ <;> refine AL.e ?_ <;> refine AL.nil ?_)
        | (refine AW.region_at 3 ?_ <;> refine AL.e ?_ <;> refine AL.e ?_ <;> refine AL.e ?_ <;> (first | (refine AL.gd ?_; refine AL.e ?_) | refine AL.gs ?_ | refine AL.gu ?_ | (refine AL.gx (fun hb => ?_) (fun hb => ?_) <;> first | (refine AL.gd ?_; refine AL.e ?_) | refine AL.gs ?_)) <;> (first | (refine AL.gd ?_; refine AL.e ?_) | refine AL.gs ?_ | refine AL.gu ?_) <;> refine AL.e ?_ <;> refine AL.nil ?_)
        | (refine AW.region_at 4 ?_ <;> refine AL.e ?_ <;> refine AL.e ?_ <;> refine AL.nil ?_)
        | refine AW.cond_true rfl ?_
        | refine AW.cond_false rfl ?_
        | refine AW.block ?_
        | refine AW.endblk ?_
        | refine AW.skip ?_
        | refine AW.exit rfl ?_
        | refine AW.label ?_
        | refine AW.j (fun hb => ?_) (fun hb => ?_))
      all_goals first
        | exact AW.retv rfl ⟨rfl, rfl⟩
        | (exfalso; simp only [decide_eq_true_eq, decide_eq_false_iff_not] at *; omega)
    · rw [if_neg hn]
      have hn' : 1 ≤ n ∧ n ≤ 64 := by omega
      refine Tri.enter 42 Tryz.func12 rfl rfl rfl rfl fun Fr w0 => ?_
      repeat' (first
        | refine AW.seq ?_
        | (refine AW.region_at 0 ?_ <;> (first | refine AL.d (AOp.box_ro rfl rfl) ?_ | refine AL.d (AOp.box_ro rfl rfl) ?_) <;> refine AL.e ?_ <;> refine AL.e ?_ <;> refine AL.nil ?_)
        | (refine AW.region_at 1 ?_ <;> refine AL.d AOp.la ?_ <;> refine AL.d (AOp.call rfl rfl hV) ?_ <;> refine AL.e ?_ <;> refine AL.nil ?_)
        | (refine AW.region_at 3 ?_ <;> refine AL.e ?_ <;> refine AL.e ?_ <;> refine AL.e ?_ <;> (first | (refine AL.gd ?_; refine AL.e ?_) | refine AL.gs ?_ | refine AL.gu ?_ | (refine AL.gx (fun hb => ?_) (fun hb => ?_) <;> first | (refine AL.gd ?_; refine AL.e ?_) | refine AL.gs ?_)) <;> (first | (refine AL.gd ?_; refine AL.e ?_) | refine AL.gs ?_ | refine AL.gu ?_) <;> refine AL.e ?_ <;> refine AL.nil ?_)
        | (refine AW.region_at 5 ?_ <;> (first | refine AL.d AOp.fa ?_ | refine AL.d (AOp.fr 0) ?_) <;> refine AL.d AOp.la ?_ <;> (first | refine AL.d AOp.fa ?_ | refine AL.d (AOp.fr 1) ?_) <;> refine AL.d AOp.la ?_ <;> refine AL.d AOp.ad ?_ <;> refine AL.e ?_ <;> refine AL.nil ?_)
        | (refine AW.region_at 6 ?_ <;> (first | refine AL.d AOp.fa ?_ | refine AL.d (AOp.fr 2) ?_) <;> refine AL.d AOp.la ?_ <;> refine AL.d AOp.ln ?_ <;> refine AL.e ?_ <;> refine AL.nil ?_)
        | refine AW.cond_true rfl ?_
        | refine AW.cond_false rfl ?_
        | refine AW.block ?_
        | refine AW.endblk ?_
        | refine AW.skip ?_
        | refine AW.exit rfl ?_
        | refine AW.label ?_
        | refine AW.j (fun hb => ?_) (fun hb => ?_))
      all_goals try (exfalso; simp only [decide_eq_true_eq, decide_eq_false_iff_not] at *; omega)
      refine AW.prune [1, 6, 24, 25, 26] (AW.loop (fun m af h => ∃ (i : Nat) (s : Int), i ≤ c.Arrays.length ∧ m = c.Arrays.length - i ∧ af = [(1, .int .i64 n), (6, .int .i64 s), (24, .sl (c.Arrays.map GSym.av)), (25, .int .i64 (c.Arrays.map GSym.av).length), (26, .int .i64 i)] ∧ h = [] ∧ 0 ≤ s ∧ s ≤ 1099511627777 ∧ cellsN c n = cellsGo n (c.Arrays.drop i) s) c.Arrays.length ⟨0, c.Flags + c.Regs, Nat.zero_le _, rfl, rfl, rfl, by omega, by omega, rfl⟩ ?_)
      rintro m af h ⟨i, s, hi, rfl, rfl, rfl, h1, h2, he⟩
      refine AW.seq ?_
      by_cases hlt : i < c.Arrays.length
      · obtain ⟨x, hx⟩ := get_lt hlt
        have hx' : (c.Arrays.map GSym.av)[((i : Nat) : Int).toNat]? = some x.av := map_get hx
        have hxa := hk.ar x (List.mem_of_getElem? hx)
        have hP := code_power n x.Arity hn' hxa
        have hpb := pw_bd hn' x.Arity.toNat 1 (by omega) (by omega)
        rw [drop_cons hx, cellsGo] at he
        repeat' (first
          | refine AW.seq ?_
          | (refine AW.region_at 7 ?_ <;> refine AL.e ?_ <;> refine AL.nil ?_)
          | (refine AW.region_at 8 ?_ <;> refine AL.d (AOp.index_sl rfl rfl (by omega) hx' (by kernel_rfl) rfl) ?_ <;> refine AL.d AOp.la ?_ <;> refine AL.alloc_store (by kernel_rfl) rfl rfl rfl rfl ?_ <;> refine AL.nil ?_)
          | (refine AW.region_at 9 ?_ <;> refine AL.e ?_ <;> refine AL.e ?_ <;> (first | refine AL.d AOp.fa ?_ | refine AL.d (AOp.fr 1) ?_) <;> refine AL.d AOp.la ?_ <;> refine AL.d (AOp.call rfl rfl hP) ?_ <;> refine AL.d AOp.ad ?_ <;> refine AL.d (AOp.min2 rfl rfl) ?_ <;> refine AL.e ?_ <;> refine AL.nil ?_)
          | (refine AW.region_at 10 ?_ <;> refine AL.d AOp.ad ?_ <;> refine AL.e ?_ <;> refine AL.nil ?_)
          | refine AW.cond_true rfl ?_
          | refine AW.cond_false rfl ?_
          | refine AW.block ?_
          | refine AW.endblk ?_
          | refine AW.skip ?_
          | refine AW.exit rfl ?_
          | refine AW.label ?_
          | refine AW.j (fun hb => ?_) (fun hb => ?_))
        all_goals first
          | (exfalso; simp only [decide_eq_true_eq, decide_eq_false_iff_not, List.length_map] at *; omega)
          | exact AW.again_keep (c.Arrays.length - (i + 1)) [1, 6, 24, 25, 26] (by omega) ⟨i + 1, _, hlt, rfl, rfl, rfl, by omega, by omega, he⟩
      · rw [List.drop_eq_nil_of_le (by omega), cellsGo] at he
        have hT := code_total s
        repeat' (first
          | refine AW.seq ?_
          | (refine AW.region_at 7 ?_ <;> refine AL.e ?_ <;> refine AL.nil ?_)
          | (refine AW.region_at 11 ?_ <;> refine AL.e ?_ <;> refine AL.d (AOp.call rfl rfl hT) ?_ <;> refine AL.e ?_ <;> refine AL.e ?_ <;> refine AL.e ?_ <;> refine AL.e ?_ <;> refine AL.nil ?_)
          | refine AW.cond_true rfl ?_
          | refine AW.cond_false rfl ?_
          | refine AW.block ?_
          | refine AW.endblk ?_
          | refine AW.skip ?_
          | refine AW.exit rfl ?_
          | refine AW.label ?_
          | refine AW.j (fun hb => ?_) (fun hb => ?_))
        all_goals first
          | (exfalso; simp only [decide_eq_true_eq, decide_eq_false_iff_not, List.length_map] at *; omega)
          | exact AW.retv rfl ⟨by rw [he], rfl⟩
end Go.Proofs.YtdedkpfbfklgbaaGreat
namespace Go.Proofs.YtdedkpfbfklgbaaGreat
open Go.RowKit Go.SX
set_option maxRecDepth 100000
set_option maxHeartbeats 4000000
set_option linter.unusedVariables false
set_option linter.unusedSimpArgs false

theorem IndexFunc_Sym (xs : List GSym) (hl : xs.length ≤ 4611686018427387904) (fid : FuncId) (caps : List AV) (p : GSym → Bool) (hf : ∀ x ∈ xs, Tri Tryz.prog fid (x.av :: caps) [] (D (.bool (p x)) [])) :
    Tri Tryz.prog 48 [.sl (xs.map GSym.av), .fn fid caps] [] (D (.int .i64 (idxFrom p xs 0)) []) := by
  refine Tri.enter 19 Tryz.func48 rfl rfl rfl rfl fun Fr w0 => ?_
  repeat (first
    | refine AL.ev rfl rfl rfl rfl ?_
    | refine AW.seq ?_
    | refine AL.nil ?_
    | refine AW.region ?_
    | refine AL.det (AOp.load_at rfl rfl (by kernel_rfl)) rfl rfl rfl ?_
    | refine AL.det (AOp.field_at rfl rfl (by kernel_rfl) rfl) rfl rfl rfl ?_
    | refine AL.det (AOp.len rfl rfl (by kernel_rfl)) rfl rfl rfl ?_
    | refine AL.det (AOp.field_ref rfl (by kernel_rfl)) rfl rfl rfl ?_
    | refine AL.guard_do rfl rfl rfl rfl ?_
    | refine AL.guard_skip rfl rfl rfl rfl rfl ?_
    | refine AW.cond_true rfl ?_
    | refine AW.cond_false rfl ?_
    | refine AW.block ?_
    | refine AW.endblk ?_
    | refine AW.skip ?_
    | refine AW.exit rfl ?_
    | refine AW.label ?_
    | refine AL.det (AOp.add rfl rfl (by omega)) rfl rfl rfl ?_
    | refine AL.det (AOp.sub rfl rfl (by omega)) rfl rfl rfl ?_
    | refine AL.det (AOp.max2 rfl rfl) rfl rfl rfl ?_
    | refine AL.det (AOp.min2 rfl rfl) rfl rfl rfl ?_
    | refine AL.det (AOp.bool_eq (by kernel_rfl) rfl rfl) rfl rfl rfl ?_
    | refine AL.det (AOp.bool_ne (by kernel_rfl) rfl rfl) rfl rfl rfl ?_
    | refine AL.det (AOp.build (by kernel_rfl) rfl rfl rfl) rfl rfl rfl ?_)
  refine AW.prune [0, 1, 7, 8] (AW.loop (fun m af h => ∃ k : Nat, k ≤ xs.length ∧ m = xs.length - k ∧ af = [(0, .sl (xs.map GSym.av)), (1, .fn fid caps), (7, .int .i64 (xs.map GSym.av).length), (8, .int .i64 k)] ∧ h = [] ∧ idxFrom p xs 0 = idxFrom p (xs.drop k) k) xs.length ⟨0, Nat.zero_le _, rfl, rfl, rfl, rfl⟩ ?_)
  rintro m af h ⟨k, hk, rfl, rfl, rfl, hp⟩
  repeat (first
    | refine AL.ev rfl rfl rfl rfl ?_
    | refine AW.seq ?_
    | refine AL.nil ?_
    | refine AW.region ?_
    | refine AL.det (AOp.load_at rfl rfl (by kernel_rfl)) rfl rfl rfl ?_
    | refine AL.det (AOp.field_at rfl rfl (by kernel_rfl) rfl) rfl rfl rfl ?_
    | refine AL.det (AOp.len rfl rfl (by kernel_rfl)) rfl rfl rfl ?_
    | refine AL.det (AOp.field_ref rfl (by kernel_rfl)) rfl rfl rfl ?_
    | refine AL.guard_do rfl rfl rfl rfl ?_
    | refine AL.guard_skip rfl rfl rfl rfl rfl ?_
    | refine AW.cond_true rfl ?_
    | refine AW.cond_false rfl ?_
    | refine AW.block ?_
    | refine AW.endblk ?_
    | refine AW.skip ?_
    | refine AW.exit rfl ?_
    | refine AW.label ?_
    | refine AL.det (AOp.add rfl rfl (by omega)) rfl rfl rfl ?_
    | refine AL.det (AOp.sub rfl rfl (by omega)) rfl rfl rfl ?_
    | refine AL.det (AOp.max2 rfl rfl) rfl rfl rfl ?_
    | refine AL.det (AOp.min2 rfl rfl) rfl rfl rfl ?_
    | refine AL.det (AOp.bool_eq (by kernel_rfl) rfl rfl) rfl rfl rfl ?_
    | refine AL.det (AOp.bool_ne (by kernel_rfl) rfl rfl) rfl rfl rfl ?_
    | refine AL.det (AOp.build (by kernel_rfl) rfl rfl rfl) rfl rfl rfl ?_)
  refine AW.cond rfl (fun hb => ?_) (fun hb => ?_)
  · have hlt : k < xs.length := by simpa using hb
    obtain ⟨x, hx⟩ := get_lt hlt
    have hx' : (xs.map GSym.av)[((k : Nat) : Int).toNat]? = some x.av := map_get hx
    have hc := hf x (List.mem_of_getElem? hx)
    repeat (first
      | refine AL.det (AOp.index_sl rfl rfl (by omega) hx' (by kernel_rfl) rfl) rfl rfl rfl ?_
      | refine AL.det (AOp.call rfl rfl hc) rfl rfl rfl ?_
      | refine AL.ev rfl rfl rfl rfl ?_
      | refine AW.seq ?_
      | refine AL.nil ?_
      | refine AW.region ?_
      | refine AL.det (AOp.load_at rfl rfl (by kernel_rfl)) rfl rfl rfl ?_
      | refine AL.det (AOp.field_at rfl rfl (by kernel_rfl) rfl) rfl rfl rfl ?_
      | refine AL.det (AOp.len rfl rfl (by kernel_rfl)) rfl rfl rfl ?_
      | refine AL.det (AOp.field_ref rfl (by kernel_rfl)) rfl rfl rfl ?_
      | refine AL.guard_do rfl rfl rfl rfl ?_
      | refine AL.guard_skip rfl rfl rfl rfl rfl ?_
      | refine AW.cond_true rfl ?_
      | refine AW.cond_false rfl ?_
      | refine AW.block ?_
      | refine AW.endblk ?_
      | refine AW.skip ?_
      | refine AW.exit rfl ?_
      | refine AW.label ?_
      | refine AL.det (AOp.add rfl rfl (by omega)) rfl rfl rfl ?_
      | refine AL.det (AOp.sub rfl rfl (by omega)) rfl rfl rfl ?_
      | refine AL.det (AOp.max2 rfl rfl) rfl rfl rfl ?_
      | refine AL.det (AOp.min2 rfl rfl) rfl rfl rfl ?_
      | refine AL.det (AOp.bool_eq (by kernel_rfl) rfl rfl) rfl rfl rfl ?_
      | refine AL.det (AOp.bool_ne (by kernel_rfl) rfl rfl) rfl rfl rfl ?_
      | refine AL.det (AOp.build (by kernel_rfl) rfl rfl rfl) rfl rfl rfl ?_)
    rw [drop_cons hx] at hp
    simp only [idxFrom] at hp
    refine AW.cond rfl (fun hb => ?_) (fun hb => ?_)
    · repeat (first
        | refine AL.ev rfl rfl rfl rfl ?_
        | refine AW.seq ?_
        | refine AL.nil ?_
        | refine AW.region ?_
        | refine AL.det (AOp.load_at rfl rfl (by kernel_rfl)) rfl rfl rfl ?_
        | refine AL.det (AOp.field_at rfl rfl (by kernel_rfl) rfl) rfl rfl rfl ?_
        | refine AL.det (AOp.len rfl rfl (by kernel_rfl)) rfl rfl rfl ?_
        | refine AL.det (AOp.field_ref rfl (by kernel_rfl)) rfl rfl rfl ?_
        | refine AL.guard_do rfl rfl rfl rfl ?_
        | refine AL.guard_skip rfl rfl rfl rfl rfl ?_
        | refine AW.cond_true rfl ?_
        | refine AW.cond_false rfl ?_
        | refine AW.block ?_
        | refine AW.endblk ?_
        | refine AW.skip ?_
        | refine AW.exit rfl ?_
        | refine AW.label ?_
        | refine AL.det (AOp.add rfl rfl (by omega)) rfl rfl rfl ?_
        | refine AL.det (AOp.sub rfl rfl (by omega)) rfl rfl rfl ?_
        | refine AL.det (AOp.max2 rfl rfl) rfl rfl rfl ?_
        | refine AL.det (AOp.min2 rfl rfl) rfl rfl rfl ?_
        | refine AL.det (AOp.bool_eq (by kernel_rfl) rfl rfl) rfl rfl rfl ?_
        | refine AL.det (AOp.bool_ne (by kernel_rfl) rfl rfl) rfl rfl rfl ?_
        | refine AL.det (AOp.build (by kernel_rfl) rfl rfl rfl) rfl rfl rfl ?_)
      rw [if_pos hb] at hp
      exact AW.retv rfl ⟨by rw [hp], rfl⟩
    · rw [if_neg (by simp [hb])] at hp
      repeat (first
        | refine AL.ev rfl rfl rfl rfl ?_
        | refine AW.seq ?_
        | refine AL.nil ?_
        | refine AW.region ?_
        | refine AL.det (AOp.load_at rfl rfl (by kernel_rfl)) rfl rfl rfl ?_
        | refine AL.det (AOp.field_at rfl rfl (by kernel_rfl) rfl) rfl rfl rfl ?_
        | refine AL.det (AOp.len rfl rfl (by kernel_rfl)) rfl rfl rfl ?_
        | refine AL.det (AOp.field_ref rfl (by kernel_rfl)) rfl rfl rfl ?_
        | refine AL.guard_do rfl rfl rfl rfl ?_
        | refine AL.guard_skip rfl rfl rfl rfl rfl ?_
        | refine AW.cond_true rfl ?_
        | refine AW.cond_false rfl ?_
        | refine AW.block ?_
        | refine AW.endblk ?_
        | refine AW.skip ?_
        | refine AW.exit rfl ?_
        | refine AW.label ?_
        | refine AL.det (AOp.add rfl rfl (by omega)) rfl rfl rfl ?_
        | refine AL.det (AOp.sub rfl rfl (by omega)) rfl rfl rfl ?_
        | refine AL.det (AOp.max2 rfl rfl) rfl rfl rfl ?_
        | refine AL.det (AOp.min2 rfl rfl) rfl rfl rfl ?_
        | refine AL.det (AOp.bool_eq (by kernel_rfl) rfl rfl) rfl rfl rfl ?_
        | refine AL.det (AOp.bool_ne (by kernel_rfl) rfl rfl) rfl rfl rfl ?_
        | refine AL.det (AOp.build (by kernel_rfl) rfl rfl rfl) rfl rfl rfl ?_)
      exact AW.again_keep (xs.length - (k + 1)) [0, 1, 7, 8] (by omega) ⟨k + 1, hlt, rfl, rfl, rfl, hp⟩
  · have hge : k = xs.length := by
      have : ¬ k < xs.length := by simpa using hb
      omega
    subst hge
    repeat (first
      | refine AL.ev rfl rfl rfl rfl ?_
      | refine AW.seq ?_
      | refine AL.nil ?_
      | refine AW.region ?_
      | refine AL.det (AOp.load_at rfl rfl (by kernel_rfl)) rfl rfl rfl ?_
      | refine AL.det (AOp.field_at rfl rfl (by kernel_rfl) rfl) rfl rfl rfl ?_
      | refine AL.det (AOp.len rfl rfl (by kernel_rfl)) rfl rfl rfl ?_
      | refine AL.det (AOp.field_ref rfl (by kernel_rfl)) rfl rfl rfl ?_
      | refine AL.guard_do rfl rfl rfl rfl ?_
      | refine AL.guard_skip rfl rfl rfl rfl rfl ?_
      | refine AW.cond_true rfl ?_
      | refine AW.cond_false rfl ?_
      | refine AW.block ?_
      | refine AW.endblk ?_
      | refine AW.skip ?_
      | refine AW.exit rfl ?_
      | refine AW.label ?_
      | refine AL.det (AOp.add rfl rfl (by omega)) rfl rfl rfl ?_
      | refine AL.det (AOp.sub rfl rfl (by omega)) rfl rfl rfl ?_
      | refine AL.det (AOp.max2 rfl rfl) rfl rfl rfl ?_
      | refine AL.det (AOp.min2 rfl rfl) rfl rfl rfl ?_
      | refine AL.det (AOp.bool_eq (by kernel_rfl) rfl rfl) rfl rfl rfl ?_
      | refine AL.det (AOp.bool_ne (by kernel_rfl) rfl rfl) rfl rfl rfl ?_
      | refine AL.det (AOp.build (by kernel_rfl) rfl rfl rfl) rfl rfl rfl ?_)
    refine AW.retv rfl ⟨?_, rfl⟩
    rw [hp]; simp [idxFrom]; rfl
theorem idx_findJ (n : ByteArray) : ∀ (l : List GSym) (i : Nat), idxFrom (fun a => decide (a.Name = n)) l i = findJ n l i
  | [], i => rfl
  | a :: l, i => by
    rw [idxFrom, findJ, idx_findJ n l (i + 1)]
    by_cases h : a.Name = n
    · rw [if_pos (by simpa using h), if_pos h]
    · rw [if_neg (by simpa using h), if_neg h]
def inS (s : GStmt) : Bool := hasL (fun s => decide (s.Kind = 12)) s.Body || hasL (fun s => decide (s.Kind = 12)) s.Else
def insideB (l : List GStmt) : Bool := l.any inS
theorem insideB_cons (x : GStmt) (l : List GStmt) : insideB (x :: l) = (inS x || insideB l) := rfl
def guessGo (A : Ar) (n : Int) : List GStmt → Int → Int
  | [], s => s
  | x :: l, s => guessGo A n l (if x.Kind = 12 then min (s + pw n ((A x.Name).getD 0).toNat 1) 1099511627777 else s)
def guessN (c : GCode) (n : Int) : Int := guessGo (arOf c.Arrays) n c.Body 0
def guessR (c : GCode) (n : Int) : Int × Int := if (checkedP c).bad = true then (0, 1) else if n < 1 ∨ n > 64 then (0, 2) else if insideB c.Body = true then (0, 6) else totR (guessN c n)
theorem allL_mem (p : GStmt → Bool) : ∀ {l : List GStmt}, allL p l = true → ∀ x ∈ l, p x = true ∧ allL p x.Body = true ∧ allL p x.Else = true
  | [], _, x, hx => by cases hx
  | y :: l, h, x, hx => by
    rw [allL, Bool.and_eq_true, allS_eq, Bool.and_eq_true, Bool.and_eq_true] at h
    rcases List.mem_cons.1 hx with rfl | hx
    · exact ⟨h.1.1.1, h.1.1.2, h.1.2⟩
    · exact allL_mem p h.2 x hx
theorem ref_all {c : GCode} (hb : (checkedP c).bad = false) : allL (refS (arOf c.Arrays) c.Flags c.Regs) c.Body = true := by
  rw [checked_iff] at hb
  have h : refValid c = true := by simpa using hb
  unfold refValid at h
  simp only [Bool.and_eq_true] at h
  exact h.1.2.2
theorem arr_of {c : GCode} (hb : (checkedP c).bad = false) {x : GStmt} (hx : x ∈ c.Body) (hk : x.Kind = 12) : ∃ (k : Nat) (a : GSym), findJ x.Name c.Arrays 0 = (k : Int) ∧ c.Arrays[k]? = some a ∧ arOf c.Arrays x.Name = some a.Arity ∧ 0 ≤ a.Arity ∧ a.Arity ≤ 12 := by
  have h := (allL_mem _ (ref_all hb) x hx).1
  rw [fldAll, if_neg (by omega), if_neg (by omega), if_neg (by omega), if_neg (by omega), if_neg (by omega), if_neg (by omega), if_neg (by omega), if_neg (by omega), if_pos (by omega), Bool.and_eq_true] at h
  rcases findJ_spec x.Name c.Arrays 0 with ⟨-, e⟩ | ⟨k, a, e1, e2, -, e3⟩
  · rw [e] at h; simp at h
  · exact ⟨k, a, by rw [e1, Nat.zero_add], e2, e3, (chk_ok hb).ar a (List.mem_of_getElem? e2)⟩
theorem Guesses1 (s : GStmt) : Tri Tryz.prog 47 [s.st] [] (D (.bool (decide (s.Kind = 12))) []) := by
  refine Tri.enter 6 Tryz.func47 rfl rfl rfl rfl fun Fr w0 => ?_
  repeat' (first
    | refine AW.seq ?_
    | (refine AW.region_at 0 ?_ <;> refine AL.d (AOp.box_ro rfl rfl) ?_ <;> refine AL.e ?_ <;> refine AL.nil ?_)
    | (refine AW.region_at 1 ?_ <;> (first | refine AL.d AOp.fa ?_ | refine AL.d (AOp.fr 0) ?_) <;> refine AL.d AOp.la ?_ <;> refine AL.e ?_ <;> refine AL.e ?_ <;> refine AL.nil ?_)
    | refine AW.cond_true rfl ?_
    | refine AW.cond_false rfl ?_
    | refine AW.block ?_
    | refine AW.endblk ?_
    | refine AW.skip ?_
    | refine AW.exit rfl ?_
    | refine AW.label ?_
    | refine AW.j (fun hb => ?_) (fun hb => ?_))
  exact AW.retv rfl ⟨by rw [ieq], rfl⟩
theorem Guesses2 (a : GSym) (s : GStmt) : Tri Tryz.prog 49 [a.av, .at s.st] [] (D (.bool (decide (a.Name = s.Name))) []) := by
  refine Tri.enter 9 Tryz.func49 rfl rfl rfl rfl fun Fr w0 => ?_
  repeat' (first
    | refine AW.seq ?_
    | (refine AW.region_at 0 ?_ <;> refine AL.d (AOp.box_ro rfl rfl) ?_ <;> refine AL.e ?_ <;> refine AL.nil ?_)
    | (refine AW.region_at 1 ?_ <;> (first | refine AL.d AOp.fa ?_ | refine AL.d (AOp.fr 0) ?_) <;> refine AL.d AOp.la ?_ <;> (first | refine AL.d AOp.fa ?_ | refine AL.d (AOp.fr 5) ?_) <;> refine AL.d AOp.la ?_ <;> refine AL.e ?_ <;> refine AL.e ?_ <;> refine AL.nil ?_)
    | refine AW.cond_true rfl ?_
    | refine AW.cond_false rfl ?_
    | refine AW.block ?_
    | refine AW.endblk ?_
    | refine AW.skip ?_
    | refine AW.exit rfl ?_
    | refine AW.label ?_
    | refine AW.j (fun hb => ?_) (fun hb => ?_))
  exact AW.retv rfl ⟨by rw [toList_beq], rfl⟩
theorem ref_Inside (l : List GStmt) (hl : l.length ≤ 4611686018427387904) (ho : ∀ x ∈ l, x.Ok) : Tri Tryz.prog 20 [.sl (l.map GStmt.av)] [] (D (.bool (insideB l)) []) := by
  refine Tri.enter 24 Tryz.func20 rfl rfl rfl rfl fun Fr w0 => ?_
  repeat' (first
    | refine AW.seq ?_
    | (refine AW.region_at 0 ?_ <;> refine AL.e ?_ <;> refine AL.nil ?_)
    | (refine AW.region_at 1 ?_ <;> refine AL.e ?_ <;> refine AL.nil ?_)
    | refine AW.cond_true rfl ?_
    | refine AW.cond_false rfl ?_
    | refine AW.block ?_
    | refine AW.endblk ?_
    | refine AW.skip ?_
    | refine AW.exit rfl ?_
    | refine AW.label ?_
    | refine AW.j (fun hb => ?_) (fun hb => ?_))
  refine AW.prune [0, 3] (AW.loop (fun m af h => ∃ i : Nat, i ≤ l.length ∧ m = l.length - i ∧ af = [(0, .sl (l.map GStmt.av)), (3, .int .i64 i)] ∧ h = [] ∧ insideB l = insideB (l.drop i)) l.length ⟨0, Nat.zero_le _, rfl, rfl, rfl, rfl⟩ ?_)
  rintro m af h ⟨i, hi, rfl, rfl, rfl, he⟩
  refine AW.seq ?_
  by_cases hlt : i < l.length
  · obtain ⟨x, hx⟩ := get_lt hlt
    have hx' : (l.map GStmt.av)[((i : Nat) : Int).toNat]? = some x.st := GStmt.get hx
    have hbo := okB (ho x (List.mem_of_getElem? hx))
    have hB := ref_Has 12 (cntL x.Body) x.Body (Nat.le_refl _) hbo.1 hbo.2.1
    have hE := ref_Has 12 (cntL x.Else) x.Else (Nat.le_refl _) hbo.2.2.1 hbo.2.2.2
    rw [drop_cons hx, insideB_cons, inS] at he
    repeat' (first
      | refine AW.seq ?_
      | (refine AW.region_at 2 ?_ <;> refine AL.e ?_ <;> refine AL.e ?_ <;> refine AL.d AOp.ln ?_ <;> refine AL.e ?_ <;> refine AL.nil ?_)
      | (refine AW.region_at 4 ?_ <;> refine AL.e ?_ <;> refine AL.e ?_ <;> refine AL.d (AOp.index_sl rfl rfl (by omega) hx' (by kernel_rfl) rfl) ?_ <;> (first | refine AL.d AOp.fa ?_ | refine AL.d (AOp.fr 12) ?_) <;> refine AL.d AOp.la ?_ <;> (first | refine AL.d (AOp.call rfl rfl hB) ?_ | refine AL.d (AOp.call rfl rfl hE) ?_) <;> refine AL.e ?_ <;> (first | (refine AL.gd ?_; refine AL.e ?_) | refine AL.gs ?_ | refine AL.gu ?_ | (refine AL.gx (fun hb => ?_) (fun hb => ?_) <;> first | (refine AL.gd ?_; refine AL.e ?_) | refine AL.gs ?_)) <;> (first | (refine AL.gd ?_; refine AL.e ?_) | refine AL.gs ?_ | refine AL.gu ?_) <;> (first | (refine AL.gd ?_; refine AL.d (AOp.index_sl rfl rfl (by omega) hx' (by kernel_rfl) rfl) ?_) | refine AL.gs ?_ | refine AL.gu ?_) <;> (first | (refine AL.gd ?_; (first | refine AL.d AOp.fa ?_ | refine AL.d (AOp.fr 13) ?_)) | refine AL.gs ?_ | refine AL.gu ?_) <;> (first | (refine AL.gd ?_; refine AL.d AOp.la ?_) | refine AL.gs ?_ | refine AL.gu ?_) <;> (first | (refine AL.gd ?_; (first | refine AL.d (AOp.call rfl rfl hB) ?_ | refine AL.d (AOp.call rfl rfl hE) ?_)) | refine AL.gs ?_ | refine AL.gu ?_) <;> refine AL.e ?_ <;> refine AL.nil ?_)
      | (refine AW.region_at 5 ?_ <;> refine AL.e ?_ <;> refine AL.nil ?_)
      | (refine AW.region_at 3 ?_ <;> refine AL.e ?_ <;> refine AL.d AOp.ad ?_ <;> refine AL.e ?_ <;> refine AL.nil ?_)
      | refine AW.cond_true rfl ?_
      | refine AW.cond_false rfl ?_
      | refine AW.block ?_
      | refine AW.endblk ?_
      | refine AW.skip ?_
      | refine AW.exit rfl ?_
      | refine AW.label ?_
      | refine AW.j (fun hb => ?_) (fun hb => ?_))
    all_goals try (exfalso; simp only [decide_eq_true_eq, decide_eq_false_iff_not, List.length_map] at *; omega)
    all_goals clear hB hE
    all_goals first
      | (refine AW.retv rfl ⟨retB ?_, rfl⟩; rw [he]; simp_all; done)
      | (refine AW.again_keep (l.length - (i + 1)) [0, 3] (by omega) ⟨i + 1, hlt, rfl, rfl, rfl, ?_⟩; rw [he]; simp_all [insideB]; done)
  · rw [List.drop_eq_nil_of_le (by omega)] at he
    repeat' (first
      | refine AW.seq ?_
      | (refine AW.region_at 2 ?_ <;> refine AL.e ?_ <;> refine AL.e ?_ <;> refine AL.d AOp.ln ?_ <;> refine AL.e ?_ <;> refine AL.nil ?_)
      | (refine AW.region_at 6 ?_ <;> refine AL.e ?_ <;> refine AL.nil ?_)
      | refine AW.cond_true rfl ?_
      | refine AW.cond_false rfl ?_
      | refine AW.block ?_
      | refine AW.endblk ?_
      | refine AW.skip ?_
      | refine AW.exit rfl ?_
      | refine AW.label ?_
      | refine AW.j (fun hb => ?_) (fun hb => ?_))
    all_goals try (exfalso; simp only [decide_eq_true_eq, decide_eq_false_iff_not, List.length_map] at *; omega)
    exact AW.retv rfl ⟨by rw [he]; rfl, rfl⟩
theorem ref_Guesses (c : GCode) (hc : c.Ok) (hb : (checkedP c).bad = false) (n : Int) (hn : 1 ≤ n ∧ n ≤ 64) : Tri Tryz.prog 21 [c.av, .int .i64 n] [] (D (.int .i64 (guessN c n)) []) := by
  have hbl : c.Body.length ≤ 4611686018427387904 := by have := hc.2.2.2.1; omega
  have hal : c.Arrays.length ≤ 4611686018427387904 := by have := hc.2.2.1.1; omega
  refine Tri.enter 41 Tryz.func21 rfl rfl rfl rfl fun Fr w0 => ?_
  repeat' (first
    | refine AW.seq ?_
    | (refine AW.region_at 0 ?_ <;> (first | refine AL.d (AOp.box_ro rfl rfl) ?_ | refine AL.d (AOp.box_ro rfl rfl) ?_) <;> refine AL.e ?_ <;> refine AL.nil ?_)
    | (refine AW.region_at 1 ?_ <;> refine AL.e ?_ <;> refine AL.nil ?_)
    | (refine AW.region_at 2 ?_ <;> refine AL.e ?_ <;> refine AL.nil ?_)
    | refine AW.cond_true rfl ?_
    | refine AW.cond_false rfl ?_
    | refine AW.block ?_
    | refine AW.endblk ?_
    | refine AW.skip ?_
    | refine AW.exit rfl ?_
    | refine AW.label ?_
    | refine AW.j (fun hb => ?_) (fun hb => ?_))
  refine AW.prune [1, 2, 5, 6] (AW.loop (fun m af h => ∃ (i : Nat) (s : Int), i ≤ c.Body.length ∧ m = c.Body.length - i ∧ af = [(1, .int .i64 n), (2, .at c.av), (5, .int .i64 s), (6, .int .i64 i)] ∧ h = [] ∧ 0 ≤ s ∧ s ≤ 1099511627777 ∧ guessN c n = guessGo (arOf c.Arrays) n (c.Body.drop i) s) c.Body.length ⟨0, 0, Nat.zero_le _, rfl, rfl, rfl, by omega, by omega, rfl⟩ ?_)
  rintro m af h ⟨i, s, hi, rfl, rfl, rfl, h1, h2, he⟩
  refine AW.seq ?_
  by_cases hlt : i < c.Body.length
  · obtain ⟨x, hx⟩ := get_lt hlt
    have hx' : (c.Body.map GStmt.av)[((i : Nat) : Int).toNat]? = some x.st := GStmt.get hx
    rw [drop_cons hx, guessGo] at he
    by_cases hk : x.Kind = 12
    · obtain ⟨k, a, e1, e2, e3, ha⟩ := arr_of hb (List.mem_of_getElem? hx) hk
      have ha' : (c.Arrays.map GSym.av)[((k : Nat) : Int).toNat]? = some a.av := map_get e2
      have hP := ref_power n a.Arity hn ha
      have hF := ref_find c.Arrays x.Name hal
      have hpb := pw_bd hn a.Arity.toNat 1 (by omega) (by omega)
      rw [if_pos hk, e3, Option.getD_some] at he
      rw [e1] at hF
      repeat' (first
        | refine AW.seq ?_
        | (refine AW.region_at 3 ?_ <;> refine AL.e ?_ <;> (first | refine AL.d AOp.fa ?_ | refine AL.d (AOp.fr 3) ?_) <;> refine AL.d AOp.la ?_ <;> refine AL.d AOp.ln ?_ <;> refine AL.e ?_ <;> refine AL.nil ?_)
        | (refine AW.region_at 5 ?_ <;> (first | refine AL.d AOp.fa ?_ | refine AL.d (AOp.fr 3) ?_) <;> refine AL.d AOp.la ?_ <;> refine AL.e ?_ <;> (first | refine AL.d (AOp.index_sl rfl rfl (by omega) hx' (by kernel_rfl) rfl) ?_ | refine AL.d (AOp.index_sl rfl rfl (by omega) ha' (by kernel_rfl) rfl) ?_) <;> (first | refine AL.d AOp.fa ?_ | refine AL.d (AOp.fr 0) ?_) <;> refine AL.d AOp.la ?_ <;> refine AL.e ?_ <;> refine AL.nil ?_)
        | (refine AW.da 6 ?_ <;> refine AQ.e ?_ <;> refine AQ.e ?_ <;> (first | refine AQ.p rfl AOp.fa ?_ | refine AQ.p rfl (AOp.fr 2) ?_) <;> refine AQ.p rfl AOp.la ?_ <;> (first | refine AQ.p rfl AOp.fa ?_ | refine AQ.p rfl (AOp.fr 2) ?_) <;> refine AQ.p rfl AOp.la ?_ <;> (first | refine AQ.p rfl AOp.fa ?_ | refine AQ.p rfl (AOp.fr 3) ?_) <;> refine AQ.p rfl AOp.la ?_ <;> refine AQ.e ?_ <;> (first | refine AQ.p rfl (AOp.index_sl rfl rfl (by omega) hx' (by kernel_rfl) rfl) ?_ | refine AQ.p rfl (AOp.index_sl rfl rfl (by omega) ha' (by kernel_rfl) rfl) ?_) <;> (first | refine AQ.p rfl AOp.fa ?_ | refine AQ.p rfl (AOp.fr 5) ?_) <;> refine AQ.p rfl AOp.la ?_ <;> (first | refine AQ.p rfl (AOp.call rfl rfl hF) ?_ | refine AQ.p rfl (AOp.call rfl rfl hP) ?_) <;> (first | refine AQ.p rfl (AOp.index_sl rfl rfl (by omega) hx' (by kernel_rfl) rfl) ?_ | refine AQ.p rfl (AOp.index_sl rfl rfl (by omega) ha' (by kernel_rfl) rfl) ?_) <;> (first | refine AQ.p rfl AOp.fa ?_ | refine AQ.p rfl (AOp.fr 1) ?_) <;> refine AQ.p rfl AOp.la ?_ <;> (first | refine AQ.p rfl (AOp.call rfl rfl hF) ?_ | refine AQ.p rfl (AOp.call rfl rfl hP) ?_) <;> refine AQ.p rfl AOp.ad ?_ <;> refine AQ.p rfl (AOp.min2 rfl rfl) ?_ <;> refine AQ.e ?_ <;> refine AQ.nil ?_)
        | (refine AW.region_at 4 ?_ <;> refine AL.e ?_ <;> refine AL.d AOp.ad ?_ <;> refine AL.e ?_ <;> refine AL.nil ?_)
        | refine AW.cond_true rfl ?_
        | refine AW.cond_false rfl ?_
        | refine AW.block ?_
        | refine AW.endblk ?_
        | refine AW.skip ?_
        | refine AW.exit rfl ?_
        | refine AW.label ?_
        | refine AW.j (fun hb => ?_) (fun hb => ?_))
      all_goals first
        | (exfalso; simp only [decide_eq_true_eq, decide_eq_false_iff_not, List.length_map, beq_iff_eq, beq_eq_false_iff_ne, ne_eq] at *; omega)
        | exact AW.again_keep (c.Body.length - (i + 1)) [1, 2, 5, 6] (by omega) ⟨i + 1, _, hlt, rfl, rfl, rfl, by omega, by omega, he⟩
    · rw [if_neg hk] at he
      repeat' (first
        | refine AW.seq ?_
        | (refine AW.region_at 3 ?_ <;> refine AL.e ?_ <;> (first | refine AL.d AOp.fa ?_ | refine AL.d (AOp.fr 3) ?_) <;> refine AL.d AOp.la ?_ <;> refine AL.d AOp.ln ?_ <;> refine AL.e ?_ <;> refine AL.nil ?_)
        | (refine AW.region_at 5 ?_ <;> (first | refine AL.d AOp.fa ?_ | refine AL.d (AOp.fr 3) ?_) <;> refine AL.d AOp.la ?_ <;> refine AL.e ?_ <;> refine AL.d (AOp.index_sl rfl rfl (by omega) hx' (by kernel_rfl) rfl) ?_ <;> (first | refine AL.d AOp.fa ?_ | refine AL.d (AOp.fr 0) ?_) <;> refine AL.d AOp.la ?_ <;> refine AL.e ?_ <;> refine AL.nil ?_)
        | (refine AW.region_at 4 ?_ <;> refine AL.e ?_ <;> refine AL.d AOp.ad ?_ <;> refine AL.e ?_ <;> refine AL.nil ?_)
        | refine AW.cond_true rfl ?_
        | refine AW.cond_false rfl ?_
        | refine AW.block ?_
        | refine AW.endblk ?_
        | refine AW.skip ?_
        | refine AW.exit rfl ?_
        | refine AW.label ?_
        | refine AW.j (fun hb => ?_) (fun hb => ?_))
      all_goals first
        | exact AW.again_keep (c.Body.length - (i + 1)) [1, 2, 5, 6] (by omega) ⟨i + 1, _, hlt, rfl, rfl, rfl, by omega, by omega, he⟩
        | (exfalso; simp only [decide_eq_true_eq, decide_eq_false_iff_not, List.length_map, beq_iff_eq, beq_eq_false_iff_ne, ne_eq] at *; omega)
  · rw [List.drop_eq_nil_of_le (by omega), guessGo] at he
    repeat' (first
      | refine AW.seq ?_
      | (refine AW.region_at 3 ?_ <;> refine AL.e ?_ <;> (first | refine AL.d AOp.fa ?_ | refine AL.d (AOp.fr 3) ?_) <;> refine AL.d AOp.la ?_ <;> refine AL.d AOp.ln ?_ <;> refine AL.e ?_ <;> refine AL.nil ?_)
      | (refine AW.region_at 7 ?_ <;> refine AL.e ?_ <;> refine AL.e ?_ <;> refine AL.nil ?_)
      | refine AW.cond_true rfl ?_
      | refine AW.cond_false rfl ?_
      | refine AW.block ?_
      | refine AW.endblk ?_
      | refine AW.skip ?_
      | refine AW.exit rfl ?_
      | refine AW.label ?_
      | refine AW.j (fun hb => ?_) (fun hb => ?_))
    all_goals first
      | (exfalso; simp only [decide_eq_true_eq, decide_eq_false_iff_not, List.length_map] at *; omega)
      | exact AW.retv rfl ⟨by rw [he], rfl⟩
theorem code_Guesses (c : GCode) (hc : c.Ok) (hcnt : cntL c.Body ≤ 50000) (n : Int) : Tri Tryz.prog 13 [c.av, .int .i64 n] [] (D (.tup [.int .i64 (guessR c n).1, .int .i64 (guessR c n).2]) []) := by
  have hV := code_Valid c hc
  have hbl : c.Body.length ≤ 4611686018427387904 := by have := hc.2.2.2.1; omega
  have hal : c.Arrays.length ≤ 4611686018427387904 := by have := hc.2.2.1.1; omega
  unfold guessR
  by_cases hb : (checkedP c).bad = true
  · rw [if_pos hb]
    rw [hb] at hV
    refine Tri.enter 60 Tryz.func13 rfl rfl rfl rfl fun Fr w0 => ?_
    repeat' (first
      | refine AW.seq ?_
      | (refine AW.region_at 0 ?_ <;> (first | refine AL.d (AOp.box_ro rfl rfl) ?_ | refine AL.d (AOp.box_ro rfl rfl) ?_) <;> refine AL.e ?_ <;> refine AL.e ?_ <;> refine AL.nil ?_)
      | (refine AW.region_at 1 ?_ <;> refine AL.d AOp.la ?_ <;> refine AL.d (AOp.call rfl rfl hV) ?_ <;> refine AL.e ?_ <;> refine AL.nil ?_)
      | (refine AW.region_at 2 ?_ <;> refine AL.e ?_ <;> refine AL.e ?_ <;> refine AL.nil ?_)
      | refine AW.cond_true rfl ?_
      | refine AW.cond_false rfl ?_
      | refine AW.block ?_
      | refine AW.endblk ?_
      | refine AW.skip ?_
      | refine AW.exit rfl ?_
      | refine AW.label ?_
      | refine AW.j (fun hb => ?_) (fun hb => ?_))
    exact AW.retv rfl ⟨rfl, rfl⟩
  · have hb' : (checkedP c).bad = false := by simpa using hb
    rw [if_neg hb]
    rw [hb'] at hV
    by_cases hn : n < 1 ∨ n > 64
    · rw [if_pos hn]
      refine Tri.enter 60 Tryz.func13 rfl rfl rfl rfl fun Fr w0 => ?_
      repeat' (first
        | refine AW.seq ?_
        | (refine AW.region_at 0 ?_ <;> (first | refine AL.d (AOp.box_ro rfl rfl) ?_ | refine AL.d (AOp.box_ro rfl rfl) ?_) <;> refine AL.e ?_ <;> refine AL.e ?_ <;> refine AL.nil ?_)
        | (refine AW.region_at 1 ?_ <;> refine AL.d AOp.la ?_ <;> refine AL.d (AOp.call rfl rfl hV) ?_ <;> refine AL.e ?_ <;> refine AL.nil ?_)
        | (refine AW.region_at 3 ?_ <;> refine AL.e ?_ <;> refine AL.e ?_ <;> refine AL.e ?_ <;> (first | (refine AL.gd ?_; refine AL.e ?_) | refine AL.gs ?_ | refine AL.gu ?_ | (refine AL.gx (fun hb => ?_) (fun hb => ?_) <;> first | (refine AL.gd ?_; refine AL.e ?_) | refine AL.gs ?_)) <;> (first | (refine AL.gd ?_; refine AL.e ?_) | refine AL.gs ?_ | refine AL.gu ?_) <;> refine AL.e ?_ <;> refine AL.nil ?_)
        | (refine AW.region_at 4 ?_ <;> refine AL.e ?_ <;> refine AL.e ?_ <;> refine AL.nil ?_)
        | refine AW.cond_true rfl ?_
        | refine AW.cond_false rfl ?_
        | refine AW.block ?_
        | refine AW.endblk ?_
        | refine AW.skip ?_
        | refine AW.exit rfl ?_
        | refine AW.label ?_
        | refine AW.j (fun hb => ?_) (fun hb => ?_))
      all_goals first
        | exact AW.retv rfl ⟨rfl, rfl⟩
        | (exfalso; simp only [decide_eq_true_eq, decide_eq_false_iff_not] at *; omega)
    · rw [if_neg hn]
      have hn' : 1 ≤ n ∧ n ≤ 64 := by omega
      refine Tri.enter 60 Tryz.func13 rfl rfl rfl rfl fun Fr w0 => ?_
      repeat' (first
        | refine AW.seq ?_
        | (refine AW.region_at 0 ?_ <;> (first | refine AL.d (AOp.box_ro rfl rfl) ?_ | refine AL.d (AOp.box_ro rfl rfl) ?_) <;> refine AL.e ?_ <;> refine AL.e ?_ <;> refine AL.nil ?_)
        | (refine AW.region_at 1 ?_ <;> refine AL.d AOp.la ?_ <;> refine AL.d (AOp.call rfl rfl hV) ?_ <;> refine AL.e ?_ <;> refine AL.nil ?_)
        | (refine AW.region_at 3 ?_ <;> refine AL.e ?_ <;> refine AL.e ?_ <;> refine AL.e ?_ <;> (first | (refine AL.gd ?_; refine AL.e ?_) | refine AL.gs ?_ | refine AL.gu ?_ | (refine AL.gx (fun hb => ?_) (fun hb => ?_) <;> first | (refine AL.gd ?_; refine AL.e ?_) | refine AL.gs ?_)) <;> (first | (refine AL.gd ?_; refine AL.e ?_) | refine AL.gs ?_ | refine AL.gu ?_) <;> refine AL.e ?_ <;> refine AL.nil ?_)
        | (refine AW.region_at 5 ?_ <;> refine AL.e ?_ <;> refine AL.nil ?_)
        | (refine AW.region_at 6 ?_ <;> (first | refine AL.d AOp.fa ?_ | refine AL.d (AOp.fr 3) ?_) <;> refine AL.d AOp.la ?_ <;> refine AL.d AOp.ln ?_ <;> refine AL.e ?_ <;> refine AL.nil ?_)
        | refine AW.cond_true rfl ?_
        | refine AW.cond_false rfl ?_
        | refine AW.block ?_
        | refine AW.endblk ?_
        | refine AW.skip ?_
        | refine AW.exit rfl ?_
        | refine AW.label ?_
        | refine AW.j (fun hb => ?_) (fun hb => ?_))
      all_goals try (exfalso; simp only [decide_eq_true_eq, decide_eq_false_iff_not] at *; omega)
      refine AW.prune [1, 2, 6, 21, 22, 23] (AW.loop (fun m af h => ∃ (i : Nat) (s : Int), i ≤ c.Body.length ∧ m = c.Body.length - i ∧ af = [(1, .int .i64 n), (2, .at c.av), (6, .int .i64 s), (21, .sl (c.Body.map GStmt.av)), (22, .int .i64 (c.Body.map GStmt.av).length), (23, .int .i64 i)] ∧ h = [] ∧ 0 ≤ s ∧ s ≤ 1099511627777 ∧ guessN c n = guessGo (arOf c.Arrays) n (c.Body.drop i) s ∧ insideB c.Body = insideB (c.Body.drop i)) c.Body.length ⟨0, 0, Nat.zero_le _, rfl, rfl, rfl, by omega, by omega, rfl, rfl⟩ ?_)
      rintro m af h ⟨i, s, hi, rfl, rfl, rfl, h1, h2, he, hi2⟩
      refine AW.seq ?_
      by_cases hlt : i < c.Body.length
      · obtain ⟨x, hx⟩ := get_lt hlt
        have hx' : (c.Body.map GStmt.av)[((i : Nat) : Int).toNat]? = some x.st := GStmt.get hx
        have hbo := okB (hc.2.2.2.2 x (List.mem_of_getElem? hx))
        have hB := contains_n (cntL x.Body) x.Body 47 [] (fun s => decide (s.Kind = 12)) (Nat.le_refl _) (by have := cnt_mem (List.mem_of_getElem? hx); have := cntS_eq x; omega) fun s => Guesses1 s
        have hE := contains_n (cntL x.Else) x.Else 47 [] (fun s => decide (s.Kind = 12)) (Nat.le_refl _) (by have := cnt_mem (List.mem_of_getElem? hx); have := cntS_eq x; omega) fun s => Guesses1 s
        have hG := Guesses1 x
        rw [drop_cons hx, guessGo] at he
        rw [drop_cons hx, insideB_cons, inS] at hi2
        by_cases hk : x.Kind = 12
        · obtain ⟨k, a, e1, e2, e3, ha⟩ := arr_of hb' (List.mem_of_getElem? hx) hk
          have ha' : (c.Arrays.map GSym.av)[((k : Nat) : Int).toNat]? = some a.av := map_get e2
          have hP := code_power n a.Arity hn' ha
          have hF := IndexFunc_Sym c.Arrays hal 49 [.at x.st] (fun a => decide (a.Name = x.Name)) fun a _ => Guesses2 a x
          have hpb := pw_bd hn' a.Arity.toNat 1 (by omega) (by omega)
          rw [if_pos hk, e3, Option.getD_some] at he
          rw [idx_findJ, e1] at hF
          rw [decide_eq_true hk] at hG
          repeat' (first
            | refine AW.seq ?_
            | (refine AW.region_at 7 ?_ <;> refine AL.e ?_ <;> refine AL.nil ?_)
            | (refine AW.region_at 8 ?_ <;> (first | refine AL.d (AOp.index_sl rfl rfl (by omega) hx' (by kernel_rfl) rfl) ?_ | refine AL.d (AOp.index_sl rfl rfl (by omega) ha' (by kernel_rfl) rfl) ?_) <;> refine AL.d AOp.la ?_ <;> refine AL.alloc_store (by kernel_rfl) rfl rfl rfl rfl ?_ <;> refine AL.nil ?_)
            | (refine AW.region_at 9 ?_ <;> refine AL.e ?_ <;> refine AL.nil ?_)
            | (refine AW.region_at 10 ?_ <;> (first | refine AL.d AOp.fa ?_ | refine AL.d (AOp.fr 12) ?_) <;> refine AL.d AOp.la ?_ <;> refine AL.e ?_ <;> (first | refine AL.d (AOp.call rfl rfl hF) ?_ | refine AL.d (AOp.call rfl rfl hP) ?_ | refine AL.d (AOp.call rfl rfl hB) ?_ | refine AL.d (AOp.call rfl rfl hE) ?_ | refine AL.d (AOp.call rfl rfl hG) ?_) <;> refine AL.e ?_ <;> (first | (refine AL.gd ?_; (first | refine AL.d AOp.fa ?_ | refine AL.d (AOp.fr 13) ?_)) | refine AL.gs ?_ | refine AL.gu ?_ | (refine AL.gx (fun hb => ?_) (fun hb => ?_) <;> first | (refine AL.gd ?_; (first | refine AL.d AOp.fa ?_ | refine AL.d (AOp.fr 13) ?_)) | refine AL.gs ?_)) <;> (first | (refine AL.gd ?_; refine AL.d AOp.la ?_) | refine AL.gs ?_ | refine AL.gu ?_) <;> (first | (refine AL.gd ?_; refine AL.e ?_) | refine AL.gs ?_ | refine AL.gu ?_) <;> (first | (refine AL.gd ?_; (first | refine AL.d (AOp.call rfl rfl hF) ?_ | refine AL.d (AOp.call rfl rfl hP) ?_ | refine AL.d (AOp.call rfl rfl hB) ?_ | refine AL.d (AOp.call rfl rfl hE) ?_ | refine AL.d (AOp.call rfl rfl hG) ?_)) | refine AL.gs ?_ | refine AL.gu ?_) <;> refine AL.e ?_ <;> refine AL.nil ?_)
            | (refine AW.region_at 11 ?_ <;> refine AL.e ?_ <;> refine AL.e ?_ <;> refine AL.nil ?_)
            | (refine AW.region_at 12 ?_ <;> refine AL.e ?_ <;> refine AL.d AOp.la ?_ <;> (first | refine AL.d (AOp.call rfl rfl hF) ?_ | refine AL.d (AOp.call rfl rfl hP) ?_ | refine AL.d (AOp.call rfl rfl hB) ?_ | refine AL.d (AOp.call rfl rfl hE) ?_ | refine AL.d (AOp.call rfl rfl hG) ?_) <;> refine AL.nil ?_)
            | (refine AW.region_at 13 ?_ <;> (first | refine AL.d AOp.fa ?_ | refine AL.d (AOp.fr 2) ?_) <;> refine AL.d AOp.la ?_ <;> refine AL.e ?_ <;> (first | refine AL.d (AOp.call rfl rfl hF) ?_ | refine AL.d (AOp.call rfl rfl hP) ?_ | refine AL.d (AOp.call rfl rfl hB) ?_ | refine AL.d (AOp.call rfl rfl hE) ?_ | refine AL.d (AOp.call rfl rfl hG) ?_) <;> refine AL.e ?_ <;> refine AL.nil ?_)
            | (refine AW.region_at 14 ?_ <;> refine AL.e ?_ <;> refine AL.e ?_ <;> (first | refine AL.d AOp.fa ?_ | refine AL.d (AOp.fr 2) ?_) <;> refine AL.d AOp.la ?_ <;> refine AL.e ?_ <;> (first | refine AL.d (AOp.index_sl rfl rfl (by omega) hx' (by kernel_rfl) rfl) ?_ | refine AL.d (AOp.index_sl rfl rfl (by omega) ha' (by kernel_rfl) rfl) ?_) <;> (first | refine AL.d AOp.fa ?_ | refine AL.d (AOp.fr 1) ?_) <;> refine AL.d AOp.la ?_ <;> (first | refine AL.d (AOp.call rfl rfl hF) ?_ | refine AL.d (AOp.call rfl rfl hP) ?_ | refine AL.d (AOp.call rfl rfl hB) ?_ | refine AL.d (AOp.call rfl rfl hE) ?_ | refine AL.d (AOp.call rfl rfl hG) ?_) <;> refine AL.d AOp.ad ?_ <;> refine AL.d (AOp.min2 rfl rfl) ?_ <;> refine AL.e ?_ <;> refine AL.nil ?_)
            | (refine AW.region_at 15 ?_ <;> refine AL.d AOp.ad ?_ <;> refine AL.e ?_ <;> refine AL.nil ?_)
            | refine AW.cond_true rfl ?_
            | refine AW.cond_false rfl ?_
            | refine AW.block ?_
            | refine AW.endblk ?_
            | refine AW.skip ?_
            | refine AW.exit rfl ?_
            | refine AW.label ?_
            | refine AW.j (fun hb => ?_) (fun hb => ?_))
          all_goals try (exfalso; simp only [decide_eq_true_eq, decide_eq_false_iff_not, List.length_map] at *; omega)
          all_goals clear hB hE hG hF hP hV
          all_goals first
            | (refine AW.retv rfl ⟨?_, rfl⟩; rw [if_pos (by rw [hi2]; simp_all)]; rfl)
            | (refine AW.again_keep (c.Body.length - (i + 1)) [1, 2, 6, 21, 22, 23] (by omega) ⟨i + 1, _, hlt, rfl, rfl, rfl, by omega, by omega, he, ?_⟩; rw [hi2]; simp_all [insideB]; done)
        · rw [if_neg hk] at he
          rw [decide_eq_false hk] at hG
          repeat' (first
            | refine AW.seq ?_
            | (refine AW.region_at 7 ?_ <;> refine AL.e ?_ <;> refine AL.nil ?_)
            | (refine AW.region_at 8 ?_ <;> refine AL.d (AOp.index_sl rfl rfl (by omega) hx' (by kernel_rfl) rfl) ?_ <;> refine AL.d AOp.la ?_ <;> refine AL.alloc_store (by kernel_rfl) rfl rfl rfl rfl ?_ <;> refine AL.nil ?_)
            | (refine AW.region_at 9 ?_ <;> refine AL.e ?_ <;> refine AL.nil ?_)
            | (refine AW.region_at 10 ?_ <;> (first | refine AL.d AOp.fa ?_ | refine AL.d (AOp.fr 12) ?_) <;> refine AL.d AOp.la ?_ <;> refine AL.e ?_ <;> (first | refine AL.d (AOp.call rfl rfl hB) ?_ | refine AL.d (AOp.call rfl rfl hE) ?_ | refine AL.d (AOp.call rfl rfl hG) ?_) <;> refine AL.e ?_ <;> (first | (refine AL.gd ?_; (first | refine AL.d AOp.fa ?_ | refine AL.d (AOp.fr 13) ?_)) | refine AL.gs ?_ | refine AL.gu ?_ | (refine AL.gx (fun hb => ?_) (fun hb => ?_) <;> first | (refine AL.gd ?_; (first | refine AL.d AOp.fa ?_ | refine AL.d (AOp.fr 13) ?_)) | refine AL.gs ?_)) <;> (first | (refine AL.gd ?_; refine AL.d AOp.la ?_) | refine AL.gs ?_ | refine AL.gu ?_) <;> (first | (refine AL.gd ?_; refine AL.e ?_) | refine AL.gs ?_ | refine AL.gu ?_) <;> (first | (refine AL.gd ?_; (first | refine AL.d (AOp.call rfl rfl hB) ?_ | refine AL.d (AOp.call rfl rfl hE) ?_ | refine AL.d (AOp.call rfl rfl hG) ?_)) | refine AL.gs ?_ | refine AL.gu ?_) <;> refine AL.e ?_ <;> refine AL.nil ?_)
            | (refine AW.region_at 11 ?_ <;> refine AL.e ?_ <;> refine AL.e ?_ <;> refine AL.nil ?_)
            | (refine AW.region_at 12 ?_ <;> refine AL.e ?_ <;> refine AL.d AOp.la ?_ <;> (first | refine AL.d (AOp.call rfl rfl hB) ?_ | refine AL.d (AOp.call rfl rfl hE) ?_ | refine AL.d (AOp.call rfl rfl hG) ?_) <;> refine AL.nil ?_)
            | (refine AW.region_at 15 ?_ <;> refine AL.d AOp.ad ?_ <;> refine AL.e ?_ <;> refine AL.nil ?_)
            | refine AW.cond_true rfl ?_
            | refine AW.cond_false rfl ?_
            | refine AW.block ?_
            | refine AW.endblk ?_
            | refine AW.skip ?_
            | refine AW.exit rfl ?_
            | refine AW.label ?_
            | refine AW.j (fun hb => ?_) (fun hb => ?_))
          all_goals try (exfalso; simp only [decide_eq_true_eq, decide_eq_false_iff_not, List.length_map] at *; omega)
          all_goals clear hB hE hG hV
          all_goals first
            | (refine AW.retv rfl ⟨?_, rfl⟩; rw [if_pos (by rw [hi2]; simp_all)]; rfl)
            | (refine AW.again_keep (c.Body.length - (i + 1)) [1, 2, 6, 21, 22, 23] (by omega) ⟨i + 1, _, hlt, rfl, rfl, rfl, by omega, by omega, he, ?_⟩; rw [hi2]; simp_all [insideB]; done)
      · rw [List.drop_eq_nil_of_le (by omega)] at he hi2
        have hT := code_total s
        repeat' (first
          | refine AW.seq ?_
          | (refine AW.region_at 7 ?_ <;> refine AL.e ?_ <;> refine AL.nil ?_)
          | (refine AW.region_at 16 ?_ <;> refine AL.e ?_ <;> refine AL.d (AOp.call rfl rfl hT) ?_ <;> refine AL.e ?_ <;> refine AL.e ?_ <;> refine AL.e ?_ <;> refine AL.e ?_ <;> refine AL.nil ?_)
          | refine AW.cond_true rfl ?_
          | refine AW.cond_false rfl ?_
          | refine AW.block ?_
          | refine AW.endblk ?_
          | refine AW.skip ?_
          | refine AW.exit rfl ?_
          | refine AW.label ?_
          | refine AW.j (fun hb => ?_) (fun hb => ?_))
        all_goals first
          | (exfalso; simp only [decide_eq_true_eq, decide_eq_false_iff_not, List.length_map] at *; omega)
          | exact AW.retv rfl ⟨by rw [if_neg (by rw [hi2]; simp [insideB]), he, guessGo], rfl⟩
end Go.Proofs.YtdedkpfbfklgbaaGreat
namespace Go.Proofs.YtdedkpfbfklgbaaGreat
open Go.RowKit Go.SX
set_option maxRecDepth 100000
set_option maxHeartbeats 4000000
set_option linter.unusedVariables false
set_option linter.unusedSimpArgs false

theorem Ex.det {E : Env} {T : Task} {m : MS} {o1 : Option Int} {m1 : MS} (h : Ex E T m o1 m1) : ∀ {o2 : Option Int} {m2 : MS}, Ex E T m o2 m2 → o1 = o2 ∧ m1 = m2 := by
  induction h with
  | nil => intro o2 m2 h2; cases h2; exact ⟨rfl, rfl⟩
  | stop h => intro o2 m2 h2; cases h2 <;> first | exact ⟨rfl, rfl⟩ | contradiction
  | bad h h1 ih =>
    intro o2 m2 h2
    cases h2 with
    | stop h' => contradiction
    | bad h' h1' => exact ih h1'
    | cons h' h1' h2' => exact absurd (ih h1').1 (by simp)
  | cons h h1 h2 ih1 ih2 =>
    intro o2 m2 h3
    cases h3 with
    | stop h' => contradiction
    | bad h' h1' => exact absurd (ih1 h1').1 (by simp)
    | cons h' h1' h2' => obtain ⟨_, rfl⟩ := ih1 h1'; exact ih2 h2'
  | prim h => intro o2 m2 h2; cases h2 <;> first | exact ⟨rfl, rfl⟩ | (exfalso; (try unfold isPrim at *); omega)
  | gbad h h1 => intro o2 m2 h2; cases h2 <;> first | exact ⟨rfl, rfl⟩ | contradiction | (exfalso; (try unfold isPrim at *); omega)
  | gok h h1 => intro o2 m2 h2; cases h2 <;> first | exact ⟨rfl, rfl⟩ | contradiction | (exfalso; (try unfold isPrim at *); omega)
  | each h h1 ih => intro o2 m2 h2; cases h2 <;> first | (exact ih (by assumption)) | (exfalso; (try unfold isPrim at *); omega)
  | eend h => intro o2 m2 h2; cases h2 <;> first | exact ⟨rfl, rfl⟩ | contradiction
  | ebad h h1 ih =>
    intro o2 m2 h2
    cases h2 with
    | eend h' => contradiction
    | ebad h' h1' => exact ih h1'
    | estep h' h1' h2' => exact absurd (ih h1').1 (by simp)
  | estep h h1 h2 ih1 ih2 =>
    intro o2 m2 h3
    cases h3 with
    | eend h' => contradiction
    | ebad h' h1' => exact absurd (ih1 h1').1 (by simp)
    | estep h' h1' h2' => obtain ⟨_, rfl⟩ := ih1 h1'; exact ih2 h2'
  | cond h h1 ih => intro o2 m2 h2; cases h2 <;> first | (exact ih (by assumption)) | (exfalso; (try unfold isPrim at *); omega)
  | t0 h h1 => intro o2 m2 h2; cases h2 <;> first | exact ⟨rfl, rfl⟩ | contradiction | (exfalso; (try unfold isPrim at *); omega)
  | t1 h h1 h2 ih => intro o2 m2 h3; cases h3 <;> first | (exact ih (by assumption)) | contradiction | (exfalso; (try unfold isPrim at *); omega)
  | tz h1 ih => intro o2 m2 h2; cases h2; exact ih (by assumption)
  | ts h1 ih => intro o2 m2 h2; cases h2; exact ih (by assumption)
  | rz => intro o2 m2 h2; cases h2; exact ⟨rfl, rfl⟩
  | rbad h1 ih =>
    intro o2 m2 h2
    cases h2 with
    | rbad h1' => exact ih h1'
    | rstep h1' h2' => exact absurd (ih h1').1 (by simp)
  | rstep h1 h2 ih1 ih2 =>
    intro o2 m2 h3
    cases h3 with
    | rbad h1' => exact absurd (ih1 h1').1 (by simp)
    | rstep h1' h2' => obtain ⟨_, rfl⟩ := ih1 h1'; exact ih2 h2'
  | ubad h h1 ih =>
    intro o2 m2 h2
    cases h2 with
    | ubad h' h1' => exact ih h1'
    | uend h' h1' h2' => exact absurd (ih h1').1 (by simp)
    | ustop h' h1' h2' h3' => exact absurd (ih h1').1 (by simp)
    | ustep h' h1' h2' h3' h4' => exact absurd (ih h1').1 (by simp)
    | _ => exfalso; (try unfold isPrim at *); omega
  | uend h h1 h2 ih =>
    intro o2 m2 h3
    cases h3 with
    | ubad h' h1' => exact absurd (ih h1').1 (by simp)
    | uend h' h1' h2' => exact ⟨rfl, (ih h1').2⟩
    | ustop h' h1' h2' h3' => obtain ⟨_, rfl⟩ := ih h1'; rw [h2] at h2'; cases h2'
    | ustep h' h1' h2' h3' h4' => obtain ⟨_, rfl⟩ := ih h1'; rw [h2] at h2'; cases h2'
    | _ => exfalso; (try unfold isPrim at *); omega
  | ustop h h1 h2 h3 ih =>
    intro o2 m2 h4
    cases h4 with
    | ubad h' h1' => exact absurd (ih h1').1 (by simp)
    | uend h' h1' h2' => obtain ⟨_, rfl⟩ := ih h1'; rw [h2] at h2'; cases h2'
    | ustop h' h1' h2' h3' => exact ⟨rfl, (ih h1').2⟩
    | ustep h' h1' h2' h3' h4' => obtain ⟨_, rfl⟩ := ih h1'; contradiction
    | _ => exfalso; (try unfold isPrim at *); omega
  | ustep h h1 h2 h3 h4 ih1 ih2 =>
    intro o2 m2 h5
    cases h5 with
    | ubad h' h1' => exact absurd (ih1 h1').1 (by simp)
    | uend h' h1' h2' => obtain ⟨_, rfl⟩ := ih1 h1'; rw [h2] at h2'; cases h2'
    | ustop h' h1' h2' h3' => obtain ⟨_, rfl⟩ := ih1 h1'; contradiction
    | ustep h' h1' h2' h3' h4' => obtain ⟨_, rfl⟩ := ih1 h1'; exact ih2 h4'
    | _ => exfalso; (try unfold isPrim at *); omega
theorem prim_same (n : Int) (s : GStmt) (m : MS) : (prim n s m).steps = m.steps ∧ (prim n s m).used = m.used := by
  have hif : ∀ (c : Prop) [Decidable c] (a b : MS), (a.steps = m.steps ∧ a.used = m.used) → (b.steps = m.steps ∧ b.used = m.used) → ((if c then a else b).steps = m.steps ∧ (if c then a else b).used = m.used) := fun c _ a b h1 h2 => by split <;> assumption
  unfold prim
  exact hif _ _ _ ⟨rfl, rfl⟩ (hif _ _ _ ⟨rfl, rfl⟩ (hif _ _ _ ⟨rfl, rfl⟩ (hif _ _ _ ⟨rfl, rfl⟩ (hif _ _ _ ⟨rfl, rfl⟩ (hif _ _ _ ⟨rfl, rfl⟩ (hif _ _ _ ⟨rfl, rfl⟩ (hif _ _ _ ⟨rfl, rfl⟩ (hif _ _ _ ⟨rfl, rfl⟩ ⟨rfl, rfl⟩))))))))
/-- Steps and guesses only grow, within their bounds. -/
theorem Ex.grow {E : Env} {T : Task} {m : MS} {o : Option Int} {m' : MS} (h : Ex E T m o m') : m.steps ≤ m'.steps ∧ m.used ≤ m'.used ∧ (m.steps ≤ E.fuel → m'.steps ≤ E.fuel) ∧ (m.used ≤ E.G.length → m'.used ≤ E.G.length) := by
  induction h with
  | prim h => rename_i x m; have := prim_same E.n x m; omega
  | gok h h1 => rename_i x m; simp only [MS.guess]; omega
  | bad h h1 ih => simp only [MS.step] at ih; omega
  | cons h h1 h2 ih1 ih2 => simp only [MS.step] at ih1; omega
  | ebad h h1 ih => simp only [MS.setR] at ih; omega
  | estep h h1 h2 ih1 ih2 => simp only [MS.setR] at ih1; omega
  | ustep h h1 h2 h3 h4 ih1 ih2 => simp only [MS.step] at ih2; omega
  | _ => omega
/-- A course that ends needs no more than it took. -/
theorem Ex.other {E : Env} {T : Task} {m : MS} {o : Option Int} {m' : MS} (h : Ex E T m o m') : ∀ {E' : Env}, E'.n = E.n → o = none → m'.steps ≤ E'.fuel → m'.used ≤ E'.G.length → m'.used ≤ E.G.length → 0 ≤ m.used → E'.G.take m'.used.toNat = E.G.take m'.used.toNat → Ex E' T m none m' := by
  have tk : ∀ (G G' : List Bool) (a b : Nat), a ≤ b → G'.take b = G.take b → G'.take a = G.take a := fun G G' a b hab e => by
    rw [← Nat.min_eq_left hab, ← List.take_take, e, List.take_take]
  induction h with
  | nil => intro E' hn ho hf hg hg2 h0 he; exact .nil
  | stop h => intro E' hn ho; cases ho
  | bad h h1 ih => intro E' hn ho; cases ho
  | cons h h1 h2 ih1 ih2 =>
    intro E' hn ho hf hg hg2 h0 he
    have g1 := h1.grow
    have g2 := h2.grow
    simp only [MS.step] at g1
    refine .cons (by omega) (ih1 hn rfl (by omega) (by omega) (by omega) h0 (tk _ _ _ _ (by omega) he)) (ho ▸ ih2 hn ho hf hg hg2 (by omega) he)
  | prim h => intro E' hn ho hf hg hg2 h0 he; rw [← hn]; exact .prim h
  | gbad h h1 => intro E' hn ho; cases ho
  | gok h h1 =>
    intro E' hn ho hf hg hg2 h0 he
    rename_i x m
    simp only [MS.guess] at hg hg2 he
    have e : m.guess E.G x = m.guess E'.G x := by
      simp only [MS.guess]
      have h3 : (E.G.drop m.used.toNat).take (m.rels x.Name).length = (E'.G.drop m.used.toNat).take (m.rels x.Name).length := by
        have h4 : ∀ G : List Bool, (G.drop m.used.toNat).take (m.rels x.Name).length = (G.take (m.used + (m.rels x.Name).length).toNat).drop m.used.toNat := fun G => by
          rw [List.take_drop]; congr 2; omega
        rw [h4, h4, he]
      rw [h3]
    rw [e]
    exact .gok h (by omega)
  | each h h1 ih => intro E' hn ho hf hg hg2 h0 he; exact .each h (ih hn ho hf hg hg2 h0 he)
  | eend h => intro E' hn ho hf hg hg2 h0 he; exact .eend (by rw [hn]; exact h)
  | ebad h h1 ih => intro E' hn ho; cases ho
  | estep h h1 h2 ih1 ih2 =>
    intro E' hn ho hf hg hg2 h0 he
    have g1 := h1.grow
    have g2 := h2.grow
    simp only [MS.setR] at g1
    exact .estep (by rw [hn]; exact h) (ih1 hn rfl (by omega) (by omega) (by omega) h0 (tk _ _ _ _ (by omega) he)) (ih2 hn ho hf hg hg2 (by omega) he)
  | cond h h1 ih => intro E' hn ho hf hg hg2 h0 he; exact .cond h (ih hn ho hf hg hg2 h0 he)
  | t0 h h1 => intro E' hn ho hf hg hg2 h0 he; exact .t0 h h1
  | t1 h h1 h2 ih => intro E' hn ho hf hg hg2 h0 he; exact .t1 h h1 (ih hn ho hf hg hg2 h0 he)
  | tz h1 ih => intro E' hn ho hf hg hg2 h0 he; exact .tz (ih hn ho hf hg hg2 h0 he)
  | ts h1 ih => intro E' hn ho hf hg hg2 h0 he; exact .ts (by rw [hn]; exact ih hn ho hf hg hg2 h0 he)
  | rz => intro E' hn ho hf hg hg2 h0 he; exact .rz
  | rbad h1 ih => intro E' hn ho; cases ho
  | rstep h1 h2 ih1 ih2 =>
    intro E' hn ho hf hg hg2 h0 he
    have g1 := h1.grow
    have g2 := h2.grow
    exact .rstep (ih1 hn rfl (by omega) (by omega) (by omega) h0 (tk _ _ _ _ (by omega) he)) (ih2 hn ho hf hg hg2 (by omega) he)
  | ubad h h1 ih => intro E' hn ho; cases ho
  | uend h h1 h2 ih => intro E' hn ho hf hg hg2 h0 he; exact .uend h (ih hn ho hf hg hg2 h0 he) h2
  | ustop h h1 h2 h3 ih => intro E' hn ho; cases ho
  | ustep h h1 h2 h3 h4 ih1 ih2 =>
    intro E' hn ho hf hg hg2 h0 he
    have g1 := h1.grow
    have g2 := h4.grow
    simp only [MS.step] at g2
    exact .ustep h (ih1 hn rfl (by omega) (by omega) (by omega) h0 (tk _ _ _ _ (by omega) he)) h2 (by omega) (ih2 hn ho hf hg hg2 (by show 0 ≤ _; simp only [MS.step]; omega) he)
/-- With less fuel than it takes it stops for want of fuel. -/
theorem Ex.short {E : Env} {T : Task} {m : MS} {o : Option Int} {m' : MS} (h : Ex E T m o m') : ∀ {E' : Env}, E'.n = E.n → E'.G = E.G → o = none → m.steps ≤ E'.fuel → E'.fuel < m'.steps → 0 ≤ m.used → m'.used ≤ E.G.length → ∃ m'', Ex E' T m (some 7) m'' := by
  have same : ∀ {E E' : Env} {T : Task} {m m' : MS}, Ex E T m none m' → E'.n = E.n → E'.G = E.G → m'.steps ≤ E'.fuel → 0 ≤ m.used → m'.used ≤ E.G.length → Ex E' T m none m' := fun h hn hG hf h0 hu => h.other hn rfl hf (by rw [hG]; exact hu) hu h0 (by rw [hG])
  induction h with
  | nil => intro E' hn hG ho hf hg; omega
  | stop h => intro E' hn hG ho; cases ho
  | bad h h1 ih => intro E' hn hG ho; cases ho
  | cons h h1 h2 ih1 ih2 =>
    intro E' hn hG ho hf hg h0 hu
    have g1 := h1.grow
    have g2 := h2.grow
    simp only [MS.step] at g1
    rename_i x xs m m1 o m2
    by_cases hs : m.steps < E'.fuel
    · by_cases hl : m1.steps ≤ E'.fuel
      · obtain ⟨m'', h3⟩ := ih2 hn hG ho hl hg (by omega) hu
        exact ⟨m'', .cons hs (same h1 hn hG hl h0 (by omega)) h3⟩
      · obtain ⟨m'', h3⟩ := ih1 hn hG rfl (by simp only [MS.step]; omega) (by omega) h0 (by omega)
        exact ⟨m'', .bad hs h3⟩
    · exact ⟨_, .stop hs⟩
  | prim h => intro E' hn hG ho hf hg; rename_i x m; have := prim_same E.n x m; omega
  | gbad h h1 => intro E' hn hG ho; cases ho
  | gok h h1 => intro E' hn hG ho hf hg; simp only [MS.guess] at hg; omega
  | each h h1 ih => intro E' hn hG ho hf hg h0 hu; obtain ⟨m'', h3⟩ := ih hn hG ho hf hg h0 hu; exact ⟨m'', .each h h3⟩
  | eend h => intro E' hn hG ho hf hg; omega
  | ebad h h1 ih => intro E' hn hG ho; cases ho
  | estep h h1 h2 ih1 ih2 =>
    intro E' hn hG ho hf hg h0 hu
    have g1 := h1.grow
    have g2 := h2.grow
    simp only [MS.setR] at g1
    rename_i r xs m m1 o m2 i
    by_cases hl : m1.steps ≤ E'.fuel
    · obtain ⟨m'', h3⟩ := ih2 hn hG ho hl hg (by omega) hu
      exact ⟨m'', .estep (by rw [hn]; exact h) (same h1 hn hG hl h0 (by omega)) h3⟩
    · obtain ⟨m'', h3⟩ := ih1 hn hG rfl hf (by omega) h0 (by omega)
      exact ⟨m'', .ebad (by rw [hn]; exact h) h3⟩
  | cond h h1 ih => intro E' hn hG ho hf hg h0 hu; obtain ⟨m'', h3⟩ := ih hn hG ho hf hg h0 hu; exact ⟨m'', .cond h h3⟩
  | t0 h h1 => intro E' hn hG ho hf hg; omega
  | t1 h h1 h2 ih => intro E' hn hG ho hf hg h0 hu; obtain ⟨m'', h3⟩ := ih hn hG ho hf hg h0 hu; exact ⟨m'', .t1 h h1 h3⟩
  | tz h1 ih => intro E' hn hG ho hf hg h0 hu; obtain ⟨m'', h3⟩ := ih hn hG ho hf hg h0 hu; exact ⟨m'', .tz h3⟩
  | ts h1 ih => intro E' hn hG ho hf hg h0 hu; obtain ⟨m'', h3⟩ := ih hn hG ho hf hg h0 hu; exact ⟨m'', .ts (by rw [hn]; exact h3)⟩
  | rz => intro E' hn hG ho hf hg; omega
  | rbad h1 ih => intro E' hn hG ho; cases ho
  | rstep h1 h2 ih1 ih2 =>
    intro E' hn hG ho hf hg h0 hu
    have g1 := h1.grow
    have g2 := h2.grow
    rename_i xs k j m m1 o m2
    by_cases hl : m1.steps ≤ E'.fuel
    · obtain ⟨m'', h3⟩ := ih2 hn hG ho hl hg (by omega) hu
      exact ⟨m'', .rstep (same h1 hn hG hl h0 (by omega)) h3⟩
    · obtain ⟨m'', h3⟩ := ih1 hn hG rfl hf (by omega) h0 (by omega)
      exact ⟨m'', .rbad h3⟩
  | ubad h h1 ih => intro E' hn hG ho; cases ho
  | uend h h1 h2 ih => intro E' hn hG ho hf hg h0 hu; obtain ⟨m'', h3⟩ := ih hn hG rfl hf hg h0 hu; exact ⟨m'', .ubad h h3⟩
  | ustop h h1 h2 h3 ih => intro E' hn hG ho; cases ho
  | ustep h h1 h2 h3 h4 ih1 ih2 =>
    intro E' hn hG ho hf hg h0 hu
    have g1 := h1.grow
    have g2 := h4.grow
    simp only [MS.step] at g2
    rename_i x m m1 o m2
    by_cases hl : m1.steps ≤ E'.fuel
    · by_cases hs : m1.steps < E'.fuel
      · obtain ⟨m'', h5⟩ := ih2 hn hG ho (by simp only [MS.step]; omega) hg (by show 0 ≤ _; simp only [MS.step]; omega) hu
        exact ⟨m'', .ustep h (same h1 hn hG hl h0 (by omega)) h2 hs h5⟩
      · exact ⟨_, .ustop h (same h1 hn hG hl h0 (by omega)) h2 hs⟩
    · obtain ⟨m'', h5⟩ := ih1 hn hG rfl hf (by omega) h0 (by omega)
      exact ⟨m'', .ubad h h5⟩
end Go.Proofs.YtdedkpfbfklgbaaGreat
namespace Go.Proofs.YtdedkpfbfklgbaaGreat
open Go.RowKit Go.SX
set_option maxRecDepth 100000
set_option maxHeartbeats 4000000
set_option linter.unusedVariables false
set_option linter.unusedSimpArgs false

def thenE (r : Option (Option Int × MS)) (k : MS → Option (Option Int × MS)) : Option (Option Int × MS) :=
  match r with
  | some (none, m) => k m
  | r => r
/-- The course, computed within some depth. -/
def ev (E : Env) : Nat → Task → MS → Option (Option Int × MS)
  | 0, _, _ => none
  | d + 1, .l [], m => some (none, m)
  | d + 1, .l (x :: xs), m => if m.steps < E.fuel then thenE (ev E d (.s x) m.step) fun m1 => ev E d (.l xs) m1 else some (some 7, m)
  | d + 1, .s x, m =>
    if x.Kind = 7 then ev E d (.e x.R x.Body 0) m
    else if x.Kind = 8 then ev E d (.l (if flagAt m.flags x.F = true then x.Body else x.Else)) m
    else if (0 ≤ x.Kind ∧ x.Kind ≤ 6) ∨ x.Kind = 11 ∨ x.Kind = 13 ∨ x.Kind = 14 then some (none, prim E.n x m)
    else none
  | d + 1, .e r xs i, m => if (i : Int) < E.n then thenE (ev E d (.l xs) (m.setR r i)) fun m1 => ev E d (.e r xs (i + 1)) m1 else some (none, m)
  | _ + 1, _, _ => none
theorem thenE_some {r : Option (Option Int × MS)} {k : MS → Option (Option Int × MS)} {o : Option Int} {m : MS} (h : thenE r k = some (o, m)) : (∃ e, r = some (some e, m) ∧ o = some e) ∨ ∃ m1, r = some (none, m1) ∧ k m1 = some (o, m) := by
  match r, h with
  | none, h => cases h
  | some (none, m1), h => exact .inr ⟨m1, rfl, h⟩
  | some (some e, m1), h => simp only [thenE, Option.some.injEq, Prod.mk.injEq] at h; exact .inl ⟨e, by rw [h.2], h.1.symm⟩
theorem ev_ex (E : Env) : ∀ (d : Nat) (T : Task) (m : MS) (o : Option Int) (m' : MS), ev E d T m = some (o, m') → Ex E T m o m' := by
  intro d
  induction d with
  | zero => intro T m o m' h; cases h
  | succ d ih =>
    intro T m o m' h
    cases T with
    | l xs =>
      cases xs with
      | nil => simp only [ev, Option.some.injEq, Prod.mk.injEq] at h; obtain ⟨rfl, rfl⟩ := h; exact .nil
      | cons x xs =>
        simp only [ev] at h
        split at h
        · rename_i hs
          rcases thenE_some h with ⟨e, h1, rfl⟩ | ⟨m1, h1, h2⟩
          · exact .bad hs (ih _ _ _ _ h1)
          · exact .cons hs (ih _ _ _ _ h1) (ih _ _ _ _ h2)
        · rename_i hs
          simp only [Option.some.injEq, Prod.mk.injEq] at h
          obtain ⟨rfl, rfl⟩ := h
          exact .stop hs
    | s x =>
      simp only [ev] at h
      split at h
      · rename_i hk; exact .each hk (ih _ _ _ _ h)
      · split at h
        · rename_i hk; exact .cond hk (ih _ _ _ _ h)
        · split at h
          · rename_i hk
            simp only [Option.some.injEq, Prod.mk.injEq] at h
            obtain ⟨rfl, rfl⟩ := h
            exact .prim (by unfold isPrim; omega)
          · cases h
    | e r xs i =>
      simp only [ev] at h
      split at h
      · rename_i hs
        rcases thenE_some h with ⟨e, h1, rfl⟩ | ⟨m1, h1, h2⟩
        · exact .ebad hs (ih _ _ _ _ h1)
        · exact .estep hs (ih _ _ _ _ h1) (ih _ _ _ _ h2)
      · rename_i hs
        simp only [Option.some.injEq, Prod.mk.injEq] at h
        obtain ⟨rfl, rfl⟩ := h
        exact .eend hs
    | t xs k => cases h
    | r xs k j => cases h
def nameE : ByteArray := ⟨#[69]⟩
def noLit : GLit := ⟨0, false, ⟨#[]⟩, []⟩
def edgesC : GCode := ⟨2, 2, [], [⟨7, 0, 0, 0, 0, ⟨#[]⟩, ⟨#[]⟩, noLit, [], [⟨7, 0, 0, 1, 0, ⟨#[]⟩, ⟨#[]⟩, noLit, [], [⟨0, 1, 0, 0, 0, ⟨#[]⟩, ⟨#[]⟩, ⟨0, false, nameE, [0, 1]⟩, [], [], []⟩, ⟨3, 0, 1, 0, 0, ⟨#[]⟩, ⟨#[]⟩, noLit, [], [], []⟩], []⟩], []⟩]⟩
def edgesS : GStr := ⟨2, [⟨nameE, 2, [[0, 1]]⟩]⟩
theorem edges_bad : (checkedP edgesC).bad = false := by kernel_rfl
theorem edges_S : (checkedP edgesC).S = [(nameE, 2)] := by kernel_rfl
theorem edges_valid : validStr edgesS = true := by kernel_rfl
theorem edges_find : findI edgesS nameE 2 = 0 := by kernel_rfl
theorem edges_ev : (ev ⟨2, [], 100⟩ 40 (.l edgesC.Body) (m0 edgesC edgesS)).map (fun r => (r.1, flagAt r.2.flags 0, r.2.steps)) = some (none, true, 11) := by kernel_rfl
theorem edges_time : timeR edgesC = ([1, 1, 2], 0) := by
  have h1 : untilB edgesC.Body = false := by kernel_rfl
  have h2 : timeL edgesC.Body [] = [1, 1, 2] := by kernel_rfl
  rw [timeR, if_neg (by rw [edges_bad]; simp), if_neg (by rw [h1]; simp), h2, if_neg (by simp)]
theorem edges_run {b : Bool} {n g e : Int} (h : RunR edgesC edgesS [] 100 b n g e) : b = true ∧ n = 11 ∧ e = 0 := by
  have hok : RunOk edgesC edgesS 100 := ⟨edges_bad, edges_valid, by rw [edges_S]; intro p hp; simp at hp; subst hp; rw [edges_find]; omega, by omega, by intro a ha; cases ha⟩
  have he := edges_ev
  obtain ⟨o, m', hm⟩ : ∃ o m', ev ⟨2, [], 100⟩ 40 (.l edgesC.Body) (m0 edgesC edgesS) = some (o, m') := by
    cases hv : ev ⟨2, [], 100⟩ 40 (.l edgesC.Body) (m0 edgesC edgesS) with
    | none => rw [hv] at he; cases he
    | some r => exact ⟨r.1, r.2, rfl⟩
  rw [hm] at he
  simp only [Option.map_some, Option.some.injEq, Prod.mk.injEq] at he
  obtain ⟨rfl, h2, h3⟩ := he
  have hx := ev_ex _ _ _ _ _ _ hm
  cases h with
  | form h => rcases h with h | h
              · rw [edges_bad] at h; cases h
              · rw [edges_valid] at h; cases h
  | name h1 h2' p hp h => have := hok.found p hp; omega
  | arg h1 h2' h3' h => omega
  | size h1 h2' h3' h4 a ha h => cases ha
  | ok h hx2 =>
    obtain ⟨_, rfl⟩ := hx.det hx2
    exact ⟨h2, h3, rfl⟩
  | stop h hx2 => exact absurd (hx.det hx2).1 (by simp)
end Go.Proofs.YtdedkpfbfklgbaaGreat
namespace Go.Proofs.YtdedkpfbfklgbaaGreat
open Go.RowKit Go.SX
set_option maxRecDepth 100000
set_option maxHeartbeats 4000000
set_option linter.unusedVariables false
set_option linter.unusedSimpArgs false

theorem law_edges : Tri Tryz.prog 23 [] [] (D edgesC.av []) := by
  refine Tri.enter 13 Tryz.func23 rfl rfl rfl rfl fun Fr w0 => ?_
  repeat' (first
    | refine AW.seq ?_
    | (refine AW.region_at 0 ?_ <;> refine AL.alloc_z (t := 25) (.st [.int .i64 0, .int .i64 0, .sl [], .sl []]) (by kernel_rfl) rfl rfl fun br => ?_ <;> refine AL.nil ?_)
    | refine AW.cond_true rfl ?_
    | refine AW.cond_false rfl ?_
    | refine AW.block ?_
    | refine AW.endblk ?_
    | refine AW.skip ?_
    | refine AW.exit rfl ?_
    | refine AW.label ?_
    | refine AW.j (fun hb => ?_) (fun hb => ?_))
  repeat' (first
    | refine AW.seq ?_
    | (refine AW.region_at 1 ?_ <;> refine AL.d (AOp.lit (t := 40) (e := 3) (sz := 1) (by kernel_rfl) rfl rfl rfl (by simp [AV.size, ofConst]) (by decide)) ?_ <;> refine AL.d (AOp.build (pl := [(0, 1), (1, 1), (2, 1), (3, 1)]) (z := .st [.int .i64 0, .bool false, .str ⟨#[]⟩, .sl []]) (by kernel_rfl) rfl rfl rfl) ?_ <;> refine AL.d (AOp.build (pl := [(0, 1), (1, 1), (2, 1), (3, 1), (4, 1), (5, 1), (6, 1), (7, 4), (11, 1), (12, 1), (13, 1)]) (z := .st [.int .i64 0, .int .i64 0, .int .i64 0, .int .i64 0, .int .i64 0, .str ⟨#[]⟩, .str ⟨#[]⟩, .st [.int .i64 0, .bool false, .str ⟨#[]⟩, .sl []], .sl [], .sl [], .sl []]) (by kernel_rfl) rfl rfl rfl) ?_ <;> refine AL.alloc_store (by kernel_rfl) rfl rfl rfl rfl ?_ <;> refine AL.nil ?_)
    | refine AW.cond_true rfl ?_
    | refine AW.cond_false rfl ?_
    | refine AW.block ?_
    | refine AW.endblk ?_
    | refine AW.skip ?_
    | refine AW.exit rfl ?_
    | refine AW.label ?_
    | refine AW.j (fun hb => ?_) (fun hb => ?_))
  repeat' (first
    | refine AW.seq ?_
    | (refine AW.region_at 2 ?_ <;> (first | refine AL.d AOp.la ?_ | refine AL.d (AOp.ll 0) ?_ | refine AL.d (AOp.lw 0) ?_) <;> refine AL.d (AOp.build (pl := [(0, 1), (1, 1), (2, 1), (3, 1), (4, 1), (5, 1), (6, 1), (7, 4), (11, 1), (12, 1), (13, 1)]) (z := .st [.int .i64 0, .int .i64 0, .int .i64 0, .int .i64 0, .int .i64 0, .str ⟨#[]⟩, .str ⟨#[]⟩, .st [.int .i64 0, .bool false, .str ⟨#[]⟩, .sl []], .sl [], .sl [], .sl []]) (by kernel_rfl) rfl rfl rfl) ?_ <;> refine AL.d (AOp.lit (t := 23) (e := 93) (sz := 14) (by kernel_rfl) rfl rfl rfl (by simp [AV.size, AV.sizes, ofConst]) (by decide)) ?_ <;> refine AL.d (AOp.build (pl := [(0, 1), (1, 1), (2, 1), (3, 1), (4, 1), (5, 1), (6, 1), (7, 4), (11, 1), (12, 1), (13, 1)]) (z := .st [.int .i64 0, .int .i64 0, .int .i64 0, .int .i64 0, .int .i64 0, .str ⟨#[]⟩, .str ⟨#[]⟩, .st [.int .i64 0, .bool false, .str ⟨#[]⟩, .sl []], .sl [], .sl [], .sl []]) (by kernel_rfl) rfl rfl rfl) ?_ <;> refine AL.d (AOp.lit (t := 23) (e := 93) (sz := 14) (by kernel_rfl) rfl rfl rfl (by simp [AV.size, AV.sizes, ofConst]) (by decide)) ?_ <;> refine AL.d (AOp.build (pl := [(0, 1), (1, 1), (2, 1), (3, 1), (4, 1), (5, 1), (6, 1), (7, 4), (11, 1), (12, 1), (13, 1)]) (z := .st [.int .i64 0, .int .i64 0, .int .i64 0, .int .i64 0, .int .i64 0, .str ⟨#[]⟩, .str ⟨#[]⟩, .st [.int .i64 0, .bool false, .str ⟨#[]⟩, .sl []], .sl [], .sl [], .sl []]) (by kernel_rfl) rfl rfl rfl) ?_ <;> refine AL.d (AOp.lit (t := 23) (e := 93) (sz := 14) (by kernel_rfl) rfl rfl rfl (by simp [AV.size, AV.sizes, ofConst]) (by decide)) ?_ <;> refine AL.d (AOp.build (pl := [(0, 1), (1, 1), (2, 1), (3, 1)]) (z := .st [.int .i64 0, .int .i64 0, .sl [], .sl []]) (by kernel_rfl) rfl rfl rfl) ?_ <;> refine AL.sl 0 ?_ <;> refine AL.nil ?_)
    | refine AW.cond_true rfl ?_
    | refine AW.cond_false rfl ?_
    | refine AW.block ?_
    | refine AW.endblk ?_
    | refine AW.skip ?_
    | refine AW.exit rfl ?_
    | refine AW.label ?_
    | refine AW.j (fun hb => ?_) (fun hb => ?_))
  exact AW.retc (.cell 0 rfl rfl (by kernel_rfl) .nil) (List.nil_sublist _) ⟨rfl, rfl⟩
theorem Ex.total {F R : Nat} {sig : ByteArray → Option Nat} (E : Env) : ∀ (n : Nat) (l : List GStmt), cntL l ≤ n → (∀ x ∈ l, SFit F R sig x) → ∀ m, m.steps ≤ E.fuel → ∃ o m', Ex E (.l l) m o m' := by
  intro n
  induction n using Nat.strongRecOn with
  | _ n ih =>
    intro l hn hl
    induction l with
    | nil => intro m _; exact ⟨none, m, .nil⟩
    | cons x l ihl =>
      intro m hm
      have hx := hl x (by simp)
      have hcs := cntS_eq x
      have hcl : cntL (x :: l) = cntS x + cntL l := rfl
      have hb := ih (cntL x.Body) (by omega) x.Body (Nat.le_refl _) hx.body
      have he := ih (cntL x.Else) (by omega) x.Else (Nat.le_refl _) hx.els
      have hs : ∀ u : MS, u.steps ≤ E.fuel → ∃ o m', Ex E (.s x) u o m' := by
        have hk := hx.fit.kind
        have hc : isPrim x.Kind ∨ x.Kind = 7 ∨ x.Kind = 8 ∨ x.Kind = 9 ∨ x.Kind = 10 ∨ x.Kind = 12 := by unfold isPrim; omega
        rcases hc with h | h | h | h | h | h
        · intro u _; exact ⟨_, _, .prim h⟩
        · have key : ∀ (j i : Nat), E.n.toNat - i = j → ∀ u : MS, u.steps ≤ E.fuel → ∃ o m', Ex E (.e x.R x.Body i) u o m' := by
            intro j
            induction j with
            | zero => intro i hi u hu; exact ⟨none, u, .eend (by omega)⟩
            | succ j ihj =>
              intro i hi u hu
              obtain ⟨o, m1, h1⟩ := hb (u.setR x.R i) hu
              cases o with
              | some e => exact ⟨_, _, .ebad (by omega) h1⟩
              | none =>
                obtain ⟨o, m2, h2⟩ := ihj (i + 1) (by omega) m1 (h1.grow.2.2.1 hu)
                exact ⟨_, _, .estep (by omega) h1 h2⟩
          intro u hu
          obtain ⟨o, m', h1⟩ := key _ 0 rfl u hu
          exact ⟨_, _, .each h h1⟩
        · intro u hu
          by_cases hf : flagAt u.flags x.F = true
          · obtain ⟨o, m', h1⟩ := hb u hu
            exact ⟨_, _, .cond h (by rw [if_pos hf]; exact h1)⟩
          · obtain ⟨o, m', h1⟩ := he u hu
            exact ⟨_, _, .cond h (by rw [if_neg hf]; exact h1)⟩
        · have key : ∀ (k : Nat) (u : MS), u.steps ≤ E.fuel → ∃ o m', Ex E (.t x.Body k) u o m' := by
            intro k
            induction k with
            | zero => intro u hu; obtain ⟨o, m', h1⟩ := hb u hu; exact ⟨_, _, .tz h1⟩
            | succ k ihk =>
              have key2 : ∀ (j : Nat) (u : MS), u.steps ≤ E.fuel → ∃ o m', Ex E (.r x.Body k j) u o m' := by
                intro j
                induction j with
                | zero => intro u hu; exact ⟨none, u, .rz⟩
                | succ j ihj =>
                  intro u hu
                  obtain ⟨o, m1, h1⟩ := ihk u hu
                  cases o with
                  | some e => exact ⟨_, _, .rbad h1⟩
                  | none =>
                    obtain ⟨o, m2, h2⟩ := ihj m1 (h1.grow.2.2.1 hu)
                    exact ⟨_, _, .rstep h1 h2⟩
              intro u hu
              obtain ⟨o, m', h1⟩ := key2 E.n.toNat u hu
              exact ⟨_, _, .ts h1⟩
          intro u hu
          by_cases h0 : x.Body = []
          · exact ⟨_, _, .t0 h h0⟩
          · obtain ⟨o, m', h1⟩ := key x.N.toNat u hu
            exact ⟨_, _, .t1 h h0 h1⟩
        · have key : ∀ (j : Nat) (u : MS), (E.fuel - u.steps).toNat = j → u.steps ≤ E.fuel → ∃ o m', Ex E (.s x) u o m' := by
            intro j
            induction j using Nat.strongRecOn with
            | _ j ihj =>
              intro u hj hu
              obtain ⟨o, m1, h1⟩ := hb u hu
              have g := h1.grow
              have g3 := g.2.2.1 hu
              cases o with
              | some e => exact ⟨_, _, .ubad h h1⟩
              | none =>
                by_cases hf : flagAt m1.flags x.F = true
                · exact ⟨_, _, .uend h h1 hf⟩
                · have hf' : flagAt m1.flags x.F = false := by simpa using hf
                  by_cases hs : m1.steps < E.fuel
                  · have hst : m1.step.steps = m1.steps + 1 := rfl
                    obtain ⟨o, m2, h2⟩ := ihj (E.fuel - m1.step.steps).toNat (by omega) m1.step rfl (by omega)
                    exact ⟨_, _, .ustep h h1 hf' hs h2⟩
                  · exact ⟨_, _, .ustop h h1 hf' hs⟩
          intro u hu
          exact key _ u rfl hu
        · intro u hu
          by_cases hg : (E.G.length : Int) - u.used < (u.rels x.Name).length
          · exact ⟨_, _, .gbad h hg⟩
          · exact ⟨_, _, .gok h hg⟩
      by_cases h1 : m.steps < E.fuel
      · obtain ⟨o, m1, h2⟩ := hs m.step (by show m.steps + 1 ≤ _; omega)
        cases o with
        | some e => exact ⟨_, _, .bad h1 h2⟩
        | none =>
          obtain ⟨o, m2, h3⟩ := ihl (by omega) (fun y hy => hl y (by simp [hy])) m1 (h2.grow.2.2.1 (by show m.steps + 1 ≤ _; omega))
          exact ⟨_, _, .cons h1 h2 h3⟩
      · exact ⟨_, _, .stop h1⟩
theorem RunR.total (c : GCode) (s : GStr) (G : List Bool) (fuel : Int) : ∃ b n g e, RunR c s G fuel b n g e := by
  by_cases h1 : (checkedP c).bad = true
  · exact ⟨_, _, _, _, .form (.inl h1)⟩
  have h1 : (checkedP c).bad = false := by simpa using h1
  by_cases h2 : validStr s = true
  · by_cases h3 : ∀ p ∈ (checkedP c).S, 0 ≤ findI s p.1 p.2
    · by_cases h4 : 0 ≤ fuel ∧ fuel ≤ 10000000
      · by_cases h5 : ∀ a ∈ c.Arrays, (powerR s.Size a.Arity).2 = 0
        · have hok : RunOk c s fuel := ⟨h1, h2, h3, h4, h5⟩
          obtain ⟨o, m, hx⟩ := Ex.total ⟨s.Size, G, fuel⟩ (cntL c.Body) c.Body (Nat.le_refl _) (chk_ok h1).body (m0 c s) h4.1
          cases o with
          | none => exact ⟨_, _, _, _, .ok hok hx⟩
          | some e => exact ⟨_, _, _, _, .stop hok hx⟩
        · have : ∃ a ∈ c.Arrays, (powerR s.Size a.Arity).2 ≠ 0 := by
            apply Classical.byContradiction
            intro hc
            exact h5 fun a ha => Classical.byContradiction fun hn => hc ⟨a, ha, hn⟩
          obtain ⟨a, ha, h⟩ := this
          exact ⟨_, _, _, _, .size h1 h2 h3 h4 a ha h⟩
      · exact ⟨_, _, _, _, .arg h1 h2 h3 (by omega)⟩
    · have : ∃ p ∈ (checkedP c).S, findI s p.1 p.2 < 0 := by
        apply Classical.byContradiction
        intro hc
        exact h3 fun p hp => Classical.byContradiction fun hn => hc ⟨p, hp, by omega⟩
      obtain ⟨p, hp, h⟩ := this
      exact ⟨_, _, _, _, .name h1 h2 p hp h⟩
  · exact ⟨_, _, _, _, .form (.inr (by simpa using h2))⟩
theorem RunR.det {c : GCode} {s : GStr} {G : List Bool} {fuel : Int} {b b' : Bool} {n n' g g' e e' : Int} (h : RunR c s G fuel b n g e) (k : RunR c s G fuel b' n' g' e') : b = b' ∧ n = n' ∧ g = g' ∧ e = e' := by
  cases h with
  | form h =>
    cases k with
    | form k => exact ⟨rfl, rfl, rfl, rfl⟩
    | ok k _ => rcases h with h | h; rw [k.bad] at h; cases h; rw [k.valid] at h; cases h
    | stop k _ => rcases h with h | h; rw [k.bad] at h; cases h; rw [k.valid] at h; cases h
    | _ => simp_all
  | name h1 h2 p hp h =>
    cases k with
    | name => exact ⟨rfl, rfl, rfl, rfl⟩
    | form k => simp_all
    | arg k1 k2 k3 k => have := k3 p hp; omega
    | size k1 k2 k3 k4 a ha k => have := k3 p hp; omega
    | ok k _ => have := k.found p hp; omega
    | stop k _ => have := k.found p hp; omega
  | arg h1 h2 h3 h =>
    cases k with
    | arg => exact ⟨rfl, rfl, rfl, rfl⟩
    | form k => simp_all
    | name k1 k2 p hp k => have := h3 p hp; omega
    | size k1 k2 k3 k4 a ha k => omega
    | ok k _ => have := k.fuel; omega
    | stop k _ => have := k.fuel; omega
  | size h1 h2 h3 h4 a ha h =>
    cases k with
    | size => exact ⟨rfl, rfl, rfl, rfl⟩
    | form k => simp_all
    | name k1 k2 p hp k => have := h3 p hp; omega
    | arg k1 k2 k3 k => omega
    | ok k _ => exact absurd (k.size a ha) h
    | stop k _ => exact absurd (k.size a ha) h
  | ok h hx =>
    cases k with
    | ok k kx => obtain ⟨_, rfl⟩ := hx.det kx; exact ⟨rfl, rfl, rfl, rfl⟩
    | stop k kx => exact absurd (hx.det kx).1 (by simp)
    | form k => rcases k with k | k; rw [h.bad] at k; cases k; rw [h.valid] at k; cases k
    | name k1 k2 p hp k => have := h.found p hp; omega
    | arg k1 k2 k3 k => have := h.fuel; omega
    | size k1 k2 k3 k4 a ha k => exact absurd (h.size a ha) k
  | stop h hx =>
    cases k with
    | ok k kx => exact absurd (hx.det kx).1 (by simp)
    | stop k kx => obtain ⟨e, _⟩ := hx.det kx; cases e; exact ⟨rfl, rfl, rfl, rfl⟩
    | form k => rcases k with k | k; rw [h.bad] at k; cases k; rw [h.valid] at k; cases k
    | name k1 k2 p hp k => have := h.found p hp; omega
    | arg k1 k2 k3 k => have := h.fuel; omega
    | size k1 k2 k3 k4 a ha k => exact absurd (h.size a ha) k
theorem Tri.forget {P : Program} {f : FuncId} {args : List AV} {Ψ : AEnd → Prop} (h : Tri P f args [] (fun x _ => Ψ x)) : Tri P f args [] (fun x h => Ψ x ∧ h = []) := by
  refine ⟨h.1, fun Fr w vs hst hrel => (h.2 Fr w vs hst hrel).mono fun e w' => ?_⟩
  rintro ⟨x, ah', hΨ, he, hs, hx, hn⟩
  have hsub := List.nil_sublist ah'
  refine ⟨x, [], ⟨hΨ, rfl⟩, ?_, hs.sub hsub, hx, fun b o _ hr => ?_⟩
  · cases x with
    | ret v => obtain ⟨u, e1, e2⟩ := he; exact ⟨u, e1, e2.mv (Mv.same w' fun b o hs => hs.elim .inl fun hr => .inr (reg_sub hsub hr))⟩
    | pan v => obtain ⟨u, e1, e2⟩ := he; exact ⟨u, e1, e2.mv (Mv.same w' fun b o hs => hs.elim .inl fun hr => .inr (reg_sub hsub hr))⟩
  · obtain ⟨y, hy, _⟩ := hr; cases hy
theorem code_RunD (c : GCode) (s : GStr) (G : List Bool) (fuel : Int) (hc : c.Ok) (hs : s.Ok) (hG : G.length ≤ 4611686018427387904) : ∃ b n g e, RunR c s G fuel b n g e ∧ Tri Tryz.prog 8 [c.av, s.av, bools G, .int .i64 fuel] [] (D (.tup [.bool b, .int .i64 n, .int .i64 g, .int .i64 e]) []) := by
  obtain ⟨b, n, g, e, h⟩ := RunR.total c s G fuel
  refine ⟨b, n, g, e, h, ((Tri.forget (code_RunC c s G fuel hc hs hG)).mono ?_)⟩
  rintro x a ⟨⟨b', n', g', e', h', rfl⟩, rfl⟩
  obtain ⟨rfl, rfl, rfl, rfl⟩ := h.det h'
  exact ⟨rfl, rfl⟩
end Go.Proofs.YtdedkpfbfklgbaaGreat
namespace Go.Proofs.YtdedkpfbfklgbaaGreat
open Go.RowKit Go.SX
set_option maxRecDepth 100000
set_option maxHeartbeats 4000000
set_option linter.unusedVariables false
set_option linter.unusedSimpArgs false

theorem law_FewS (s : GStr) (hs : s.Ok) : Tri Tryz.prog 6 [.sl [s.av]] [] (fun x h => ∃ b, x = .ret (.bool b) ∧ h = []) := by
  obtain ⟨_, hs2, hs3⟩ := hs
  have h0 : ([s.av] : List AV)[((0 : Nat) : Int).toNat]? = some (.st [.int .i64 s.Size, .sl (s.Rels.map GRel.av)]) := rfl
  have h0' : ([s.av] : List AV)[(0 : Int).toNat]? = some (.st [.int .i64 s.Size, .sl (s.Rels.map GRel.av)]) := rfl
  refine Tri.enter 89 Tryz.func6 rfl rfl rfl rfl fun Fr w0 => ?_
  repeat' (first
    | refine AW.seq ?_
    | (refine AW.region_at 0 ?_ <;> refine AL.e ?_ <;> refine AL.nil ?_)
    | (refine AW.region_at 1 ?_ <;> refine AL.e ?_ <;> refine AL.e ?_ <;> refine AL.nil ?_)
    | (refine AW.region_at 2 ?_ <;> refine AL.e ?_ <;> refine AL.nil ?_)
    | refine AW.cond_true rfl ?_
    | refine AW.cond_false rfl ?_
    | refine AW.block ?_
    | refine AW.endblk ?_
    | refine AW.skip ?_
    | refine AW.exit rfl ?_
    | refine AW.label ?_
    | refine AW.j (fun hb => ?_) (fun hb => ?_))
  refine AW.prune [0, 3, 4, 5] (AW.loop (fun m af h => ∃ (i : Nat) (T e : Int), i ≤ 1 ∧ m = 1 - i ∧ af = [(0, .sl [s.av]), (3, .int .i64 T), (4, .int .i64 e), (5, .int .i64 i)] ∧ h = [] ∧ 0 ≤ T ∧ T ≤ 1500 ∧ 0 ≤ e ∧ e ≤ T * 17592186044416 ∧ (i = 0 → T = 0)) 1 ⟨0, 0, 0, by omega, rfl, rfl, rfl, by omega, by omega, by omega, by omega, fun _ => rfl⟩ ?_)
  rintro m af h ⟨i, T, e, hi, rfl, rfl, rfl, hT0, hT1, he0, he1, hi0⟩
  refine AW.seq ?_
  by_cases hlt : i < 1
  · obtain rfl : i = 0 := by omega
    repeat' (first
      | refine AW.seq ?_
      | (refine AW.region_at 3 ?_ <;> refine AL.e ?_ <;> refine AL.e ?_ <;> refine AL.d AOp.ln ?_ <;> refine AL.e ?_ <;> refine AL.nil ?_)
      | (refine AW.region_at 5 ?_ <;> refine AL.e ?_ <;> refine AL.e ?_ <;> (first | refine AL.d (AOp.index_sl rfl rfl (by omega) h0 (by kernel_rfl) rfl) ?_ | refine AL.d (AOp.index_sl rfl rfl (by omega) h0' (by kernel_rfl) rfl) ?_) <;> (first | refine AL.d AOp.fa ?_ | refine AL.d (AOp.fr 1) ?_) <;> refine AL.d AOp.la ?_ <;> refine AL.d AOp.ln ?_ <;> refine AL.e ?_ <;> refine AL.nil ?_)
      | (refine AW.region_at 6 ?_ <;> refine AL.e ?_ <;> refine AL.nil ?_)
      | (refine AW.region_at 7 ?_ <;> refine AL.e ?_ <;> refine AL.nil ?_)
      | refine AW.cond_true rfl ?_
      | refine AW.cond_false rfl ?_
      | refine AW.block ?_
      | refine AW.endblk ?_
      | refine AW.skip ?_
      | refine AW.exit rfl ?_
      | refine AW.label ?_
      | refine AW.j (fun hb => ?_) (fun hb => ?_))
    all_goals try (exfalso; simp only [decide_eq_true_eq, decide_eq_false_iff_not] at *; simp at *; done)
    · exact AW.retv rfl ⟨_, rfl, rfl⟩
    have hR : s.Rels.length ≤ 12 := by simp only [decide_eq_false_iff_not, List.length_map] at hb; omega
    refine AW.prune [0, 3, 4, 5, 6] (AW.loop (fun m af h => ∃ (k : Nat) (T e : Int), k ≤ s.Rels.length ∧ m = s.Rels.length - k ∧ af = [(0, .sl [s.av]), (3, .int .i64 T), (4, .int .i64 e), (5, .int .i64 0), (6, .int .i64 k)] ∧ h = [] ∧ 0 ≤ T ∧ T ≤ 1500 ∧ 0 ≤ e ∧ e ≤ T * 17592186044416) s.Rels.length ⟨0, T, e, Nat.zero_le _, rfl, rfl, rfl, hT0, hT1, he0, he1⟩ ?_)
    rintro m af h ⟨k, T, e, hk, rfl, rfl, rfl, hT0, hT1, he0, he1⟩
    refine AW.seq ?_
    by_cases hlt2 : k < s.Rels.length
    · obtain ⟨r, hr⟩ := get_lt hlt2
      have hr' : (s.Rels.map GRel.av)[((k : Nat) : Int).toNat]? = some (.st [.str r.Name, .int .i64 r.Arity, .sl (r.Tuples.map ints)]) := map_get hr
      obtain ⟨_, _, hr3, hr4⟩ := hs3 r (List.mem_of_getElem? hr)
      have hTl : ((r.Tuples.map ints).length : Int) = r.Tuples.length := by simp
      repeat' (first
        | refine AW.seq ?_
        | (refine AW.region_at 8 ?_ <;> refine AL.e ?_ <;> refine AL.e ?_ <;> refine AL.e ?_ <;> (first | refine AL.d (AOp.index_sl rfl rfl (by omega) h0 (by kernel_rfl) rfl) ?_ | refine AL.d (AOp.index_sl rfl rfl (by omega) h0' (by kernel_rfl) rfl) ?_ | refine AL.d (AOp.index_sl rfl rfl (by omega) hr' (by kernel_rfl) rfl) ?_) <;> (first | refine AL.d AOp.fa ?_ | refine AL.d (AOp.fr 1) ?_) <;> refine AL.d AOp.la ?_ <;> refine AL.d AOp.ln ?_ <;> refine AL.e ?_ <;> refine AL.nil ?_)
        | (refine AW.region_at 10 ?_ <;> refine AL.e ?_ <;> refine AL.e ?_ <;> refine AL.e ?_ <;> (first | refine AL.d (AOp.index_sl rfl rfl (by omega) h0 (by kernel_rfl) rfl) ?_ | refine AL.d (AOp.index_sl rfl rfl (by omega) h0' (by kernel_rfl) rfl) ?_ | refine AL.d (AOp.index_sl rfl rfl (by omega) hr' (by kernel_rfl) rfl) ?_) <;> (first | refine AL.d AOp.fa ?_ | refine AL.d (AOp.fr 1) ?_) <;> refine AL.d AOp.la ?_ <;> refine AL.e ?_ <;> (first | refine AL.d (AOp.index_sl rfl rfl (by omega) h0 (by kernel_rfl) rfl) ?_ | refine AL.d (AOp.index_sl rfl rfl (by omega) h0' (by kernel_rfl) rfl) ?_ | refine AL.d (AOp.index_sl rfl rfl (by omega) hr' (by kernel_rfl) rfl) ?_) <;> (first | refine AL.d AOp.fa ?_ | refine AL.d (AOp.fr 2) ?_) <;> refine AL.d AOp.la ?_ <;> refine AL.d AOp.ln ?_ <;> refine AL.d AOp.ad ?_ <;> refine AL.e ?_ <;> refine AL.nil ?_)
        | (refine AW.region_at 11 ?_ <;> refine AL.e ?_ <;> refine AL.e ?_ <;> refine AL.e ?_ <;> (first | (refine AL.gd ?_; refine AL.e ?_) | refine AL.gs ?_ | refine AL.gu ?_ | (refine AL.gx (fun hb => ?_) (fun hb => ?_) <;> first | (refine AL.gd ?_; refine AL.e ?_) | refine AL.gs ?_)) <;> (first | (refine AL.gd ?_; refine AL.e ?_) | refine AL.gs ?_ | refine AL.gu ?_) <;> (first | (refine AL.gd ?_; (first | refine AL.d (AOp.index_sl rfl rfl (by omega) h0 (by kernel_rfl) rfl) ?_ | refine AL.d (AOp.index_sl rfl rfl (by omega) h0' (by kernel_rfl) rfl) ?_ | refine AL.d (AOp.index_sl rfl rfl (by omega) hr' (by kernel_rfl) rfl) ?_)) | refine AL.gs ?_ | refine AL.gu ?_) <;> (first | (refine AL.gd ?_; (first | refine AL.d AOp.fa ?_ | refine AL.d (AOp.fr 1) ?_)) | refine AL.gs ?_ | refine AL.gu ?_) <;> (first | (refine AL.gd ?_; refine AL.d AOp.la ?_) | refine AL.gs ?_ | refine AL.gu ?_) <;> (first | (refine AL.gd ?_; refine AL.e ?_) | refine AL.gs ?_ | refine AL.gu ?_) <;> (first | (refine AL.gd ?_; (first | refine AL.d (AOp.index_sl rfl rfl (by omega) h0 (by kernel_rfl) rfl) ?_ | refine AL.d (AOp.index_sl rfl rfl (by omega) h0' (by kernel_rfl) rfl) ?_ | refine AL.d (AOp.index_sl rfl rfl (by omega) hr' (by kernel_rfl) rfl) ?_)) | refine AL.gs ?_ | refine AL.gu ?_) <;> (first | (refine AL.gd ?_; (first | refine AL.d AOp.fa ?_ | refine AL.d (AOp.fr 0) ?_)) | refine AL.gs ?_ | refine AL.gu ?_) <;> (first | (refine AL.gd ?_; refine AL.d AOp.la ?_) | refine AL.gs ?_ | refine AL.gu ?_) <;> (first | (refine AL.gd ?_; refine AL.d AOp.ln ?_) | refine AL.gs ?_ | refine AL.gu ?_) <;> (first | (refine AL.gd ?_; refine AL.e ?_) | refine AL.gs ?_ | refine AL.gu ?_) <;> refine AL.e ?_ <;> refine AL.nil ?_)
        | (refine AW.region_at 12 ?_ <;> refine AL.e ?_ <;> refine AL.nil ?_)
        | (refine AW.region_at 13 ?_ <;> refine AL.e ?_ <;> refine AL.nil ?_)
        | refine AW.cond_true rfl ?_
        | refine AW.cond_false rfl ?_
        | refine AW.block ?_
        | refine AW.endblk ?_
        | refine AW.skip ?_
        | refine AW.exit rfl ?_
        | refine AW.label ?_
        | refine AW.j (fun hb => ?_) (fun hb => ?_))
      all_goals first
        | (exfalso; simp only [decide_eq_true_eq, decide_eq_false_iff_not, List.length_map] at *; omega)
        | exact AW.retv rfl ⟨_, rfl, rfl⟩
        | skip
      have hT2 : T + r.Tuples.length ≤ 1500 := by simp only [decide_eq_true_eq, decide_eq_false_iff_not, List.length_map] at *; omega
      refine AW.prune [0, 3, 4, 5, 6, 7] (AW.loop (fun m af h => ∃ (j : Nat) (e : Int), j ≤ r.Tuples.length ∧ m = r.Tuples.length - j ∧ af = [(0, .sl [s.av]), (3, .int .i64 (T + (r.Tuples.map ints).length)), (4, .int .i64 e), (5, .int .i64 0), (6, .int .i64 k), (7, .int .i64 j)] ∧ h = [] ∧ 0 ≤ e ∧ e ≤ (T + j) * 17592186044416) r.Tuples.length ⟨0, e, Nat.zero_le _, rfl, rfl, rfl, he0, by omega⟩ ?_)
      rintro m af h ⟨j, e, hj, rfl, rfl, rfl, he0, he1⟩
      refine AW.seq ?_
      by_cases hlt3 : j < r.Tuples.length
      · obtain ⟨t, ht⟩ := get_lt hlt3
        have ht' : (r.Tuples.map ints)[((j : Nat) : Int).toNat]? = some (ints t) := map_get ht
        have htl : ((t.map iav).length : Int) = t.length := by simp
        have htb := (hr4 t (List.mem_of_getElem? ht)).1
        repeat' (first
          | refine AW.seq ?_
          | (refine AW.region_at 14 ?_ <;> refine AL.e ?_ <;> refine AL.e ?_ <;> refine AL.e ?_ <;> (first | refine AL.d (AOp.index_sl rfl rfl (by omega) h0 (by kernel_rfl) rfl) ?_ | refine AL.d (AOp.index_sl rfl rfl (by omega) h0' (by kernel_rfl) rfl) ?_ | refine AL.d (AOp.index_sl rfl rfl (by omega) hr' (by kernel_rfl) rfl) ?_ | refine AL.d (AOp.index_sl rfl rfl (by omega) ht' (by kernel_rfl) rfl) ?_) <;> (first | refine AL.d AOp.fa ?_ | refine AL.d (AOp.fr 1) ?_) <;> refine AL.d AOp.la ?_ <;> refine AL.e ?_ <;> (first | refine AL.d (AOp.index_sl rfl rfl (by omega) h0 (by kernel_rfl) rfl) ?_ | refine AL.d (AOp.index_sl rfl rfl (by omega) h0' (by kernel_rfl) rfl) ?_ | refine AL.d (AOp.index_sl rfl rfl (by omega) hr' (by kernel_rfl) rfl) ?_ | refine AL.d (AOp.index_sl rfl rfl (by omega) ht' (by kernel_rfl) rfl) ?_) <;> (first | refine AL.d AOp.fa ?_ | refine AL.d (AOp.fr 2) ?_) <;> refine AL.d AOp.la ?_ <;> refine AL.d AOp.ln ?_ <;> refine AL.e ?_ <;> refine AL.nil ?_)
          | (refine AW.region_at 16 ?_ <;> refine AL.e ?_ <;> refine AL.e ?_ <;> refine AL.e ?_ <;> (first | refine AL.d (AOp.index_sl rfl rfl (by omega) h0 (by kernel_rfl) rfl) ?_ | refine AL.d (AOp.index_sl rfl rfl (by omega) h0' (by kernel_rfl) rfl) ?_ | refine AL.d (AOp.index_sl rfl rfl (by omega) hr' (by kernel_rfl) rfl) ?_ | refine AL.d (AOp.index_sl rfl rfl (by omega) ht' (by kernel_rfl) rfl) ?_) <;> (first | refine AL.d AOp.fa ?_ | refine AL.d (AOp.fr 1) ?_) <;> refine AL.d AOp.la ?_ <;> refine AL.e ?_ <;> (first | refine AL.d (AOp.index_sl rfl rfl (by omega) h0 (by kernel_rfl) rfl) ?_ | refine AL.d (AOp.index_sl rfl rfl (by omega) h0' (by kernel_rfl) rfl) ?_ | refine AL.d (AOp.index_sl rfl rfl (by omega) hr' (by kernel_rfl) rfl) ?_ | refine AL.d (AOp.index_sl rfl rfl (by omega) ht' (by kernel_rfl) rfl) ?_) <;> (first | refine AL.d AOp.fa ?_ | refine AL.d (AOp.fr 2) ?_) <;> refine AL.d AOp.la ?_ <;> refine AL.e ?_ <;> (first | refine AL.d (AOp.index_sl rfl rfl (by omega) h0 (by kernel_rfl) rfl) ?_ | refine AL.d (AOp.index_sl rfl rfl (by omega) h0' (by kernel_rfl) rfl) ?_ | refine AL.d (AOp.index_sl rfl rfl (by omega) hr' (by kernel_rfl) rfl) ?_ | refine AL.d (AOp.index_sl rfl rfl (by omega) ht' (by kernel_rfl) rfl) ?_) <;> refine AL.d AOp.la ?_ <;> refine AL.d AOp.ln ?_ <;> refine AL.d AOp.ad ?_ <;> refine AL.e ?_ <;> refine AL.nil ?_)
          | (refine AW.region_at 15 ?_ <;> refine AL.e ?_ <;> refine AL.d AOp.ad ?_ <;> refine AL.e ?_ <;> refine AL.nil ?_)
          | refine AW.cond_true rfl ?_
          | refine AW.cond_false rfl ?_
          | refine AW.block ?_
          | refine AW.endblk ?_
          | refine AW.skip ?_
          | refine AW.exit rfl ?_
          | refine AW.label ?_
          | refine AW.j (fun hb => ?_) (fun hb => ?_))
        all_goals first
          | (exfalso; simp only [decide_eq_true_eq, decide_eq_false_iff_not, List.length_map] at *; omega)
          | exact AW.again_keep (r.Tuples.length - (j + 1)) [0, 3, 4, 5, 6, 7] (by omega) ⟨j + 1, _, hlt3, rfl, rfl, rfl, by omega, by omega⟩
      · repeat' (first
          | refine AW.seq ?_
          | (refine AW.region_at 14 ?_ <;> refine AL.e ?_ <;> refine AL.e ?_ <;> refine AL.e ?_ <;> (first | refine AL.d (AOp.index_sl rfl rfl (by omega) h0 (by kernel_rfl) rfl) ?_ | refine AL.d (AOp.index_sl rfl rfl (by omega) h0' (by kernel_rfl) rfl) ?_ | refine AL.d (AOp.index_sl rfl rfl (by omega) hr' (by kernel_rfl) rfl) ?_) <;> (first | refine AL.d AOp.fa ?_ | refine AL.d (AOp.fr 1) ?_) <;> refine AL.d AOp.la ?_ <;> refine AL.e ?_ <;> (first | refine AL.d (AOp.index_sl rfl rfl (by omega) h0 (by kernel_rfl) rfl) ?_ | refine AL.d (AOp.index_sl rfl rfl (by omega) h0' (by kernel_rfl) rfl) ?_ | refine AL.d (AOp.index_sl rfl rfl (by omega) hr' (by kernel_rfl) rfl) ?_) <;> (first | refine AL.d AOp.fa ?_ | refine AL.d (AOp.fr 2) ?_) <;> refine AL.d AOp.la ?_ <;> refine AL.d AOp.ln ?_ <;> refine AL.e ?_ <;> refine AL.nil ?_)
          | (refine AW.region_at 9 ?_ <;> refine AL.e ?_ <;> refine AL.d AOp.ad ?_ <;> refine AL.e ?_ <;> refine AL.nil ?_)
          | refine AW.cond_true rfl ?_
          | refine AW.cond_false rfl ?_
          | refine AW.block ?_
          | refine AW.endblk ?_
          | refine AW.skip ?_
          | refine AW.exit rfl ?_
          | refine AW.label ?_
          | refine AW.j (fun hb => ?_) (fun hb => ?_))
        all_goals first
          | (exfalso; simp only [decide_eq_true_eq, decide_eq_false_iff_not, List.length_map] at *; omega)
          | exact AW.again_keep (s.Rels.length - (k + 1)) [0, 3, 4, 5, 6] (by omega) ⟨k + 1, _, _, hlt2, rfl, rfl, rfl, by omega, by omega, he0, by rw [hTl]; rw [show j = r.Tuples.length from by omega] at he1; exact he1⟩
    · repeat' (first
        | refine AW.seq ?_
        | (refine AW.region_at 8 ?_ <;> refine AL.e ?_ <;> refine AL.e ?_ <;> refine AL.e ?_ <;> (first | refine AL.d (AOp.index_sl rfl rfl (by omega) h0 (by kernel_rfl) rfl) ?_ | refine AL.d (AOp.index_sl rfl rfl (by omega) h0' (by kernel_rfl) rfl) ?_) <;> (first | refine AL.d AOp.fa ?_ | refine AL.d (AOp.fr 1) ?_) <;> refine AL.d AOp.la ?_ <;> refine AL.d AOp.ln ?_ <;> refine AL.e ?_ <;> refine AL.nil ?_)
        | (refine AW.region_at 4 ?_ <;> refine AL.e ?_ <;> refine AL.d AOp.ad ?_ <;> refine AL.e ?_ <;> refine AL.nil ?_)
        | refine AW.cond_true rfl ?_
        | refine AW.cond_false rfl ?_
        | refine AW.block ?_
        | refine AW.endblk ?_
        | refine AW.skip ?_
        | refine AW.exit rfl ?_
        | refine AW.label ?_
        | refine AW.j (fun hb => ?_) (fun hb => ?_))
      all_goals first
        | (exfalso; simp only [decide_eq_true_eq, decide_eq_false_iff_not, List.length_map] at *; omega)
        | exact AW.again_keep 0 [0, 3, 4, 5] (by omega) ⟨1, T, e, by omega, rfl, rfl, rfl, hT0, hT1, he0, he1, by omega⟩
  · repeat' (first
      | refine AW.seq ?_
      | (refine AW.region_at 3 ?_ <;> refine AL.e ?_ <;> refine AL.e ?_ <;> refine AL.d AOp.ln ?_ <;> refine AL.e ?_ <;> refine AL.nil ?_)
      | (refine AW.region_at 17 ?_ <;> refine AL.e ?_ <;> refine AL.e ?_ <;> refine AL.e ?_ <;> refine AL.nil ?_)
      | refine AW.cond_true rfl ?_
      | refine AW.cond_false rfl ?_
      | refine AW.block ?_
      | refine AW.endblk ?_
      | refine AW.skip ?_
      | refine AW.exit rfl ?_
      | refine AW.label ?_
      | refine AW.j (fun hb => ?_) (fun hb => ?_))
    all_goals first
      | (exfalso; simp only [decide_eq_true_eq, decide_eq_false_iff_not, List.length_cons, List.length_nil] at *; omega)
      | exact AW.retv rfl ⟨_, rfl, rfl⟩
      | exact AW.donev rfl ⟨_, rfl, rfl⟩
end Go.Proofs.YtdedkpfbfklgbaaGreat
namespace Go.Proofs.YtdedkpfbfklgbaaGreat
open Go.RowKit Go.SX
set_option maxRecDepth 100000
set_option maxHeartbeats 4000000
set_option linter.unusedVariables false
set_option linter.unusedSimpArgs false

theorem emp_ok : strOk ⟨#[]⟩ := by show (0 : Nat) ≤ _; omega
theorem nameE_ok : strOk nameE := by show (1 : Nat) ≤ _; omega
theorem len0 {α : Type} {n : Nat} {bd : α → Prop} : lenOk n bd [] := ⟨by simp, by simp⟩
theorem len1 {α : Type} {n : Nat} {bd : α → Prop} {x : α} (hn : n ≤ 1000) (h : bd x) : lenOk n bd [x] := ⟨by simp; omega, by simpa using h⟩
theorem len2 {α : Type} {n : Nat} {bd : α → Prop} {x y : α} (hn : n ≤ 1000) (h : bd x) (h' : bd y) : lenOk n bd [x, y] := ⟨by simp; omega, by simpa using ⟨h, h'⟩⟩
theorem noLit_ok : noLit.Ok := ⟨rfl, emp_ok, len0⟩
theorem edgesC_ok : edgesC.Ok := by
  have s0 : GStmt.Ok ⟨0, 1, 0, 0, 0, ⟨#[]⟩, ⟨#[]⟩, ⟨0, false, nameE, [0, 1]⟩, [], [], []⟩ := .mk ⟨rfl, rfl, rfl, rfl, rfl, emp_ok, emp_ok, ⟨rfl, nameE_ok, len2 (by omega) rfl rfl⟩, len0⟩ (by simp) (by simp) (by simp) (by simp)
  have s1 : GStmt.Ok ⟨3, 0, 1, 0, 0, ⟨#[]⟩, ⟨#[]⟩, noLit, [], [], []⟩ := .mk ⟨rfl, rfl, rfl, rfl, rfl, emp_ok, emp_ok, noLit_ok, len0⟩ (by simp) (by simp) (by simp) (by simp)
  have s2 : GStmt.Ok ⟨7, 0, 0, 1, 0, ⟨#[]⟩, ⟨#[]⟩, noLit, [], [⟨0, 1, 0, 0, 0, ⟨#[]⟩, ⟨#[]⟩, ⟨0, false, nameE, [0, 1]⟩, [], [], []⟩, ⟨3, 0, 1, 0, 0, ⟨#[]⟩, ⟨#[]⟩, noLit, [], [], []⟩], []⟩ :=
    .mk ⟨rfl, rfl, rfl, rfl, rfl, emp_ok, emp_ok, noLit_ok, len0⟩ (by simp) (by intro x h; simp only [List.mem_cons, List.not_mem_nil, or_false] at h; rcases h with rfl | rfl; exact s0; exact s1) (by simp) (by simp)
  refine ⟨rfl, rfl, len0, len1 (by omega) ?_⟩
  exact .mk ⟨rfl, rfl, rfl, rfl, rfl, emp_ok, emp_ok, noLit_ok, len0⟩ (by simp) (by intro x h; simp only [List.mem_cons, List.not_mem_nil, or_false] at h; subst h; exact s2) (by simp) (by simp)
theorem edgesS_ok : edgesS.Ok := ⟨rfl, len1 (by omega) ⟨nameE_ok, rfl, len1 (by omega) (len2 (by omega) rfl rfl)⟩⟩
theorem law_alive : Tri Tryz.prog 7 [] [] (D (.bool true) []) := by
  obtain ⟨b, n, g, e, hR, hT⟩ := code_RunD edgesC edgesS [] 100 edgesC_ok edgesS_ok (by simp)
  obtain ⟨rfl, rfl, rfl⟩ := edges_run hR
  have hE := law_edges
  have hM := code_Time edgesC edgesC_ok (by decide)
  rw [edges_time] at hM
  have hQ := ref_Equal [1, 1, 2] [1, 1, 2] (by simp) (by simp)
  refine Tri.enter 44 Tryz.func7 rfl rfl rfl rfl fun Fr w0 => ?_
  repeat' (first
    | refine AW.seq ?_
    | (refine AW.region_at 0 ?_ <;> refine AL.e ?_ <;> refine AL.nil ?_)
    | refine AW.cond_true rfl ?_
    | refine AW.cond_false rfl ?_
    | refine AW.block ?_
    | refine AW.endblk ?_
    | refine AW.skip ?_
    | refine AW.exit rfl ?_
    | refine AW.label ?_
    | refine AW.j (fun hb => ?_) (fun hb => ?_))
  repeat' (first
    | refine AW.seq ?_
    | (refine AW.region_at 1 ?_ <;> (first | refine AL.d (AOp.lit (t := 40) (e := 3) (sz := 1) (by kernel_rfl) rfl rfl rfl (by simp [AV.size, ofConst]) (by decide)) ?_ | refine AL.d (AOp.lit (t := 54) (e := 40) (sz := 1) (by kernel_rfl) rfl rfl rfl (by simp [AV.size, ofConst]) (by decide)) ?_ | refine AL.d (AOp.lit (t := 26) (e := 56) (sz := 3) (by kernel_rfl) rfl rfl rfl (by simp [AV.size, AV.sizes, ofConst]) (by decide)) ?_) <;> (first | refine AL.d (AOp.lit (t := 40) (e := 3) (sz := 1) (by kernel_rfl) rfl rfl rfl (by simp [AV.size, ofConst]) (by decide)) ?_ | refine AL.d (AOp.lit (t := 54) (e := 40) (sz := 1) (by kernel_rfl) rfl rfl rfl (by simp [AV.size, ofConst]) (by decide)) ?_ | refine AL.d (AOp.lit (t := 26) (e := 56) (sz := 3) (by kernel_rfl) rfl rfl rfl (by simp [AV.size, AV.sizes, ofConst]) (by decide)) ?_) <;> refine AL.d (AOp.build (pl := [(0, 1), (1, 1), (2, 1)]) (z := .st [.str ⟨#[]⟩, .int .i64 0, .sl []]) (by kernel_rfl) rfl rfl rfl) ?_ <;> (first | refine AL.d (AOp.lit (t := 40) (e := 3) (sz := 1) (by kernel_rfl) rfl rfl rfl (by simp [AV.size, ofConst]) (by decide)) ?_ | refine AL.d (AOp.lit (t := 54) (e := 40) (sz := 1) (by kernel_rfl) rfl rfl rfl (by simp [AV.size, ofConst]) (by decide)) ?_ | refine AL.d (AOp.lit (t := 26) (e := 56) (sz := 3) (by kernel_rfl) rfl rfl rfl (by simp [AV.size, AV.sizes, ofConst]) (by decide)) ?_) <;> refine AL.d (AOp.build (pl := [(0, 1), (1, 1)]) (z := .st [.int .i64 0, .sl []]) (by kernel_rfl) rfl rfl rfl) ?_ <;> refine AL.alloc_store (by kernel_rfl) rfl rfl rfl rfl ?_ <;> refine AL.nil ?_)
    | refine AW.cond_true rfl ?_
    | refine AW.cond_false rfl ?_
    | refine AW.block ?_
    | refine AW.endblk ?_
    | refine AW.skip ?_
    | refine AW.exit rfl ?_
    | refine AW.label ?_
    | refine AW.j (fun hb => ?_) (fun hb => ?_))
  repeat' (first
    | refine AW.seq ?_
    | (refine AW.da 2 ?_ <;> (first | refine AQ.p rfl (AOp.call rfl rfl hE) ?_ | refine AQ.p rfl (AOp.call rfl rfl hT) ?_ | refine AQ.p rfl (AOp.call rfl rfl hM) ?_) <;> refine AQ.p rfl AOp.la ?_ <;> (first | refine AQ.p rfl (AOp.call rfl rfl hE) ?_ | refine AQ.p rfl (AOp.call rfl rfl hT) ?_ | refine AQ.p rfl (AOp.call rfl rfl hM) ?_) <;> refine AQ.e ?_ <;> refine AQ.e ?_ <;> refine AQ.e ?_ <;> refine AQ.e ?_ <;> refine AQ.e ?_ <;> refine AQ.e ?_ <;> refine AQ.e ?_ <;> refine AQ.e ?_ <;> refine AQ.e ?_ <;> refine AQ.nil ?_)
    | (refine AW.region_at 3 ?_ <;> (first | refine AL.d (AOp.call rfl rfl hE) ?_ | refine AL.d (AOp.call rfl rfl hT) ?_ | refine AL.d (AOp.call rfl rfl hM) ?_) <;> (first | refine AL.d (AOp.call rfl rfl hE) ?_ | refine AL.d (AOp.call rfl rfl hT) ?_ | refine AL.d (AOp.call rfl rfl hM) ?_) <;> refine AL.e ?_ <;> refine AL.e ?_ <;> refine AL.e ?_ <;> refine AL.e ?_ <;> refine AL.e ?_ <;> refine AL.nil ?_)
    | refine AW.cond_true rfl ?_
    | refine AW.cond_false rfl ?_
    | refine AW.block ?_
    | refine AW.endblk ?_
    | refine AW.skip ?_
    | refine AW.exit rfl ?_
    | refine AW.label ?_
    | refine AW.j (fun hb => ?_) (fun hb => ?_))
  repeat' (first
    | refine AW.seq ?_
    | (refine AW.region_at 4 ?_ <;> refine AL.e ?_ <;> refine AL.e ?_ <;> refine AL.e ?_ <;> (first | (refine AL.gd ?_; refine AL.e ?_) | refine AL.gs ?_ | refine AL.gu ?_ | (refine AL.gx (fun hb => ?_) (fun hb => ?_) <;> first | (refine AL.gd ?_; refine AL.e ?_) | refine AL.gs ?_)) <;> (first | (refine AL.gd ?_; refine AL.e ?_) | refine AL.gs ?_ | refine AL.gu ?_) <;> refine AL.e ?_ <;> refine AL.e ?_ <;> (first | (refine AL.gd ?_; refine AL.e ?_) | refine AL.gs ?_ | refine AL.gu ?_ | (refine AL.gx (fun hb => ?_) (fun hb => ?_) <;> first | (refine AL.gd ?_; refine AL.e ?_) | refine AL.gs ?_)) <;> refine AL.e ?_ <;> refine AL.e ?_ <;> (first | (refine AL.gd ?_; refine AL.e ?_) | refine AL.gs ?_ | refine AL.gu ?_ | (refine AL.gx (fun hb => ?_) (fun hb => ?_) <;> first | (refine AL.gd ?_; refine AL.e ?_) | refine AL.gs ?_)) <;> (first | (refine AL.gd ?_; refine AL.e ?_) | refine AL.gs ?_ | refine AL.gu ?_) <;> refine AL.e ?_ <;> refine AL.e ?_ <;> (first | (refine AL.gd ?_; refine AL.e ?_) | refine AL.gs ?_ | refine AL.gu ?_ | (refine AL.gx (fun hb => ?_) (fun hb => ?_) <;> first | (refine AL.gd ?_; refine AL.e ?_) | refine AL.gs ?_)) <;> (first | (refine AL.gd ?_; refine AL.d (AOp.lit (t := 40) (e := 3) (sz := 1) (by kernel_rfl) rfl rfl rfl (by simp [AV.size, ofConst]) (by decide)) ?_) | refine AL.gs ?_ | refine AL.gu ?_) <;> (first | (refine AL.gd ?_; refine AL.d (AOp.call rfl rfl hQ) ?_) | refine AL.gs ?_ | refine AL.gu ?_) <;> refine AL.e ?_ <;> refine AL.e ?_ <;> refine AL.nil ?_)
    | refine AW.cond_true rfl ?_
    | refine AW.cond_false rfl ?_
    | refine AW.block ?_
    | refine AW.endblk ?_
    | refine AW.skip ?_
    | refine AW.exit rfl ?_
    | refine AW.label ?_
    | refine AW.j (fun hb => ?_) (fun hb => ?_))
  exact AW.retv rfl ⟨by simp, rfl⟩
end Go.Proofs.YtdedkpfbfklgbaaGreat
namespace Go.Proofs.YtdedkpfbfklgbaaGreat
open Go.RowKit Go.SX
set_option maxRecDepth 100000
set_option maxHeartbeats 4000000
set_option linter.unusedVariables false
set_option linter.unusedSimpArgs false

def numB (a e w : Int) : Bool := if w > 1099511627776 then decide (e = 5) && decide (a = 0) else decide (e = 0) && decide (a = w)
theorem law_number (a e w : Int) : Tri Tryz.prog 18 [.int .i64 a, .int .i64 e, .int .i64 w] [] (D (.bool (numB a e w)) []) := by
  unfold numB
  refine Tri.enter 22 Tryz.func18 rfl rfl rfl rfl fun Fr w0 => ?_
  repeat' (first
    | refine AW.seq ?_
    | (refine AW.region_at 0 ?_ <;> refine AL.e ?_ <;> refine AL.nil ?_)
    | (refine AW.region_at 1 ?_ <;> refine AL.e ?_ <;> refine AL.e ?_ <;> refine AL.nil ?_)
    | (refine AW.region_at 2 ?_ <;> refine AL.e ?_ <;> refine AL.e ?_ <;> refine AL.e ?_ <;> (first | (refine AL.gd ?_; refine AL.e ?_) | refine AL.gs ?_ | refine AL.gu ?_ | (refine AL.gx (fun hb => ?_) (fun hb => ?_) <;> first | (refine AL.gd ?_; refine AL.e ?_) | refine AL.gs ?_)) <;> (first | (refine AL.gd ?_; refine AL.e ?_) | refine AL.gs ?_ | refine AL.gu ?_) <;> refine AL.e ?_ <;> refine AL.e ?_ <;> refine AL.nil ?_)
    | (refine AW.region_at 3 ?_ <;> refine AL.e ?_ <;> refine AL.e ?_ <;> refine AL.e ?_ <;> (first | (refine AL.gd ?_; refine AL.e ?_) | refine AL.gs ?_ | refine AL.gu ?_ | (refine AL.gx (fun hb => ?_) (fun hb => ?_) <;> first | (refine AL.gd ?_; refine AL.e ?_) | refine AL.gs ?_)) <;> (first | (refine AL.gd ?_; refine AL.e ?_) | refine AL.gs ?_ | refine AL.gu ?_) <;> (first | (refine AL.gd ?_; refine AL.e ?_) | refine AL.gs ?_ | refine AL.gu ?_) <;> refine AL.e ?_ <;> refine AL.e ?_ <;> refine AL.nil ?_)
    | refine AW.cond_true rfl ?_
    | refine AW.cond_false rfl ?_
    | refine AW.block ?_
    | refine AW.endblk ?_
    | refine AW.skip ?_
    | refine AW.exit rfl ?_
    | refine AW.label ?_
    | refine AW.j (fun hb => ?_) (fun hb => ?_))
  all_goals (simp only [ieq, decide_eq_true_eq, decide_eq_false_iff_not] at *)
  all_goals first
    | (refine AW.retv rfl ⟨retB ?_, rfl⟩; simp_all; done)
    | (refine AW.retv rfl ⟨retB ?_, rfl⟩; rw [if_neg (by omega)]; simp_all; done)
    | (refine AW.retv rfl ⟨congrArg (fun b => AEnd.ret (AV.bool b)) ?_, rfl⟩; simp_all [ieq]; done)
    | (refine AW.retv rfl ⟨congrArg (fun b => AEnd.ret (AV.bool b)) ?_, rfl⟩; rw [if_neg (by omega)]; simp_all [ieq]; done)
theorem num_tot (w : Int) : numB (totR w).1 (totR w).2 w = true := by
  unfold numB totR
  by_cases h : w > 1099511627776
  · rw [if_pos h, if_pos h]; rfl
  · rw [if_neg h, if_neg h]; simp
theorem ref_wants {c : GCode} (hb : (checkedP c).bad = false) (hcnt : cntL c.Body ≤ 3000) :
    (untilB c.Body = true ∧ timeR c = ([], 6)) ∨ (untilB c.Body = false ∧ (timeL c.Body []).length > 61 ∧ timeR c = ([], 5)) ∨ (untilB c.Body = false ∧ ¬ (timeL c.Body []).length > 61 ∧ timeR c = (timeL c.Body [], 0)) := by
  obtain ⟨f1, g1, s1⟩ := timeL_sum (fun x hx => ((chk_ok hb).body x hx).nok) (show cntL c.Body ≤ 50000 by omega)
  unfold timeR
  rw [if_neg (by rw [hb]; simp)]
  by_cases hu : untilB c.Body = true
  · exact .inl ⟨hu, by rw [if_pos hu]⟩
  · rw [if_neg hu]
    have hu' : untilB c.Body = false := by simpa using hu
    by_cases hl : (timeL c.Body []).length > 61
    · exact .inr (.inl ⟨hu', hl, by rw [if_pos (.inl hl)]⟩)
    · refine .inr (.inr ⟨hu', hl, by rw [if_neg]; rintro (h | ⟨x, hx, h⟩); exact hl h; have := sumP_mem f1 x hx; omega⟩)
theorem law_CodeTimes (c : GCode) (hc : c.Ok) (n : Int) : Tri Tryz.prog 4 [c.av, .int .i64 n] [] (D (.bool true) []) := by
  have hA := law_alive
  have hF := law_Few c hc 3000 (by omega)
  by_cases hf : fewC c 3000 = true
  · rw [hf] at hF
    have hcnt : cntL c.Body ≤ 3000 := few_cnt_ (most := 3000) hc hf
    have hT := code_Time c hc (by omega)
    have hC := code_Cells c hc n
    have hG := code_Guesses c hc (by omega) n
    have hV := ref_Valid c hc (by omega)
    have hbl : c.Body.length ≤ 4611686018427387904 := by have := hc.2.2.2.1; omega
    cases hb : (checkedP c).bad with
    | true =>
      rw [show refValid c = false by have := checked_iff c; rw [hb] at this; simpa using this.symm] at hV
      rw [show timeR c = ([], 1) by unfold timeR; rw [if_pos hb]] at hT
      rw [show cellsR c n = (0, 1) by unfold cellsR; rw [if_pos hb]] at hC
      rw [show guessR c n = (0, 1) by unfold guessR; rw [if_pos hb]] at hG
      dsimp only at hT hC hG
      refine Tri.enter 135 Tryz.func4 rfl rfl rfl rfl fun Fr w0 => ?_
      repeat' (first
        | refine AW.seq ?_
        | (refine AW.region_at 0 ?_ <;> (first | refine AL.d (AOp.box_ro rfl rfl) ?_ | refine AL.d (AOp.box_ro rfl rfl) ?_) <;> refine AL.e ?_ <;> refine AL.nil ?_)
        | (refine AW.region_at 1 ?_ <;> refine AL.d AOp.la ?_ <;> (first | refine AL.d (AOp.call rfl rfl hF) ?_ | refine AL.d (AOp.call rfl rfl hT) ?_ | refine AL.d (AOp.call rfl rfl hC) ?_ | refine AL.d (AOp.call rfl rfl hG) ?_ | refine AL.d (AOp.call rfl rfl hV) ?_ | refine AL.d (AOp.call rfl rfl hA) ?_) <;> refine AL.e ?_ <;> refine AL.nil ?_)
        | (refine AW.region_at 3 ?_ <;> refine AL.d AOp.la ?_ <;> (first | refine AL.d (AOp.call rfl rfl hF) ?_ | refine AL.d (AOp.call rfl rfl hT) ?_ | refine AL.d (AOp.call rfl rfl hC) ?_ | refine AL.d (AOp.call rfl rfl hG) ?_ | refine AL.d (AOp.call rfl rfl hV) ?_ | refine AL.d (AOp.call rfl rfl hA) ?_) <;> refine AL.e ?_ <;> refine AL.e ?_ <;> refine AL.e ?_ <;> refine AL.e ?_ <;> refine AL.e ?_ <;> refine AL.nil ?_)
        | (refine AW.region_at 4 ?_ <;> refine AL.d AOp.la ?_ <;> refine AL.e ?_ <;> (first | refine AL.d (AOp.call rfl rfl hF) ?_ | refine AL.d (AOp.call rfl rfl hT) ?_ | refine AL.d (AOp.call rfl rfl hC) ?_ | refine AL.d (AOp.call rfl rfl hG) ?_ | refine AL.d (AOp.call rfl rfl hV) ?_ | refine AL.d (AOp.call rfl rfl hA) ?_) <;> refine AL.e ?_ <;> refine AL.e ?_ <;> refine AL.e ?_ <;> refine AL.e ?_ <;> refine AL.e ?_ <;> refine AL.nil ?_)
        | (refine AW.region_at 5 ?_ <;> refine AL.d AOp.la ?_ <;> refine AL.e ?_ <;> (first | refine AL.d (AOp.call rfl rfl hF) ?_ | refine AL.d (AOp.call rfl rfl hT) ?_ | refine AL.d (AOp.call rfl rfl hC) ?_ | refine AL.d (AOp.call rfl rfl hG) ?_ | refine AL.d (AOp.call rfl rfl hV) ?_ | refine AL.d (AOp.call rfl rfl hA) ?_) <;> refine AL.e ?_ <;> refine AL.e ?_ <;> refine AL.e ?_ <;> refine AL.e ?_ <;> refine AL.e ?_ <;> refine AL.nil ?_)
        | (refine AW.region_at 6 ?_ <;> refine AL.d AOp.la ?_ <;> (first | refine AL.d (AOp.call rfl rfl hF) ?_ | refine AL.d (AOp.call rfl rfl hT) ?_ | refine AL.d (AOp.call rfl rfl hC) ?_ | refine AL.d (AOp.call rfl rfl hG) ?_ | refine AL.d (AOp.call rfl rfl hV) ?_ | refine AL.d (AOp.call rfl rfl hA) ?_) <;> refine AL.e ?_ <;> refine AL.nil ?_)
        | (refine AW.region_at 7 ?_ <;> refine AL.e ?_ <;> (first | refine AL.e ?_ | refine AL.d (AOp.add rfl rfl (by simp)) ?_) <;> refine AL.e ?_ <;> (first | (refine AL.gd ?_; refine AL.e ?_) | refine AL.gs ?_ | refine AL.gu ?_ | (refine AL.gx (fun hb => ?_) (fun hb => ?_) <;> first | (refine AL.gd ?_; refine AL.e ?_) | refine AL.gs ?_)) <;> (first | (refine AL.gd ?_; (first | refine AL.e ?_ | refine AL.d (AOp.add rfl rfl (by simp)) ?_)) | refine AL.gs ?_ | refine AL.gu ?_) <;> refine AL.e ?_ <;> refine AL.e ?_ <;> (first | (refine AL.gd ?_; refine AL.e ?_) | refine AL.gs ?_ | refine AL.gu ?_ | (refine AL.gx (fun hb => ?_) (fun hb => ?_) <;> first | (refine AL.gd ?_; refine AL.e ?_) | refine AL.gs ?_)) <;> (first | (refine AL.gd ?_; (first | refine AL.e ?_ | refine AL.d (AOp.add rfl rfl (by simp)) ?_)) | refine AL.gs ?_ | refine AL.gu ?_) <;> refine AL.e ?_ <;> refine AL.e ?_ <;> (first | (refine AL.gd ?_; refine AL.e ?_) | refine AL.gs ?_ | refine AL.gu ?_ | (refine AL.gx (fun hb => ?_) (fun hb => ?_) <;> first | (refine AL.gd ?_; refine AL.e ?_) | refine AL.gs ?_)) <;> (first | (refine AL.gd ?_; refine AL.d AOp.ln ?_) | refine AL.gs ?_ | refine AL.gu ?_) <;> (first | (refine AL.gd ?_; refine AL.e ?_) | refine AL.gs ?_ | refine AL.gu ?_) <;> (first | (refine AL.gd ?_; (first | refine AL.d (AOp.add rfl rfl (by simp)) ?_ | refine AL.d AOp.ad ?_)) | refine AL.gs ?_ | refine AL.gu ?_) <;> (first | (refine AL.gd ?_; refine AL.e ?_) | refine AL.gs ?_ | refine AL.gu ?_) <;> (first | (refine AL.gd ?_; (first | refine AL.d (AOp.add rfl rfl (by simp)) ?_ | refine AL.d AOp.ad ?_)) | refine AL.gs ?_ | refine AL.gu ?_) <;> (first | (refine AL.gd ?_; (first | refine AL.e ?_ | refine AL.d (AOp.add rfl rfl (by simp)) ?_)) | refine AL.gs ?_ | refine AL.gu ?_) <;> refine AL.e ?_ <;> refine AL.e ?_ <;> (first | (refine AL.gd ?_; (first | refine AL.d (AOp.call rfl rfl hF) ?_ | refine AL.d (AOp.call rfl rfl hT) ?_ | refine AL.d (AOp.call rfl rfl hC) ?_ | refine AL.d (AOp.call rfl rfl hG) ?_ | refine AL.d (AOp.call rfl rfl hV) ?_ | refine AL.d (AOp.call rfl rfl hA) ?_)) | refine AL.gs ?_ | refine AL.gu ?_ | (refine AL.gx (fun hb => ?_) (fun hb => ?_) <;> first | (refine AL.gd ?_; (first | refine AL.d (AOp.call rfl rfl hF) ?_ | refine AL.d (AOp.call rfl rfl hT) ?_ | refine AL.d (AOp.call rfl rfl hC) ?_ | refine AL.d (AOp.call rfl rfl hG) ?_ | refine AL.d (AOp.call rfl rfl hV) ?_ | refine AL.d (AOp.call rfl rfl hA) ?_)) | refine AL.gs ?_)) <;> refine AL.e ?_ <;> refine AL.e ?_ <;> refine AL.nil ?_)
        | refine AW.cond_true rfl ?_
        | refine AW.cond_false rfl ?_
        | refine AW.block ?_
        | refine AW.endblk ?_
        | refine AW.skip ?_
        | refine AW.exit rfl ?_
        | refine AW.label ?_
        | refine AW.j (fun hb => ?_) (fun hb => ?_))
      all_goals exact AW.retv rfl ⟨rfl, rfl⟩
    | false =>
      rw [show refValid c = true by have := checked_iff c; rw [hb] at this; simpa using this.symm] at hV
      have hno : ∀ x ∈ c.Body, NOk x := fun x hx => ((chk_ok hb).body x hx).nok
      have hH := ref_Has 10 (cntL c.Body) c.Body (Nat.le_refl _) hbl hc.2.2.2.2
      have hR := ref_Time (cntL c.Body) c.Body (Nat.le_refl _) (by omega) hbl hc.2.2.2.2 hno
      have hI := ref_Inside c.Body hbl hc.2.2.2.2
      have hE0 := ref_Equal [] [] (by simp) (by simp)
      have hE := ref_Equal (timeL c.Body []) (timeL c.Body []) (by have := (timeL_sum hno (by omega)).2.1; omega) (by have := (timeL_sum hno (by omega)).2.1; omega)
      rw [decide_eq_true rfl] at hE hE0
      have hlen : (((timeL c.Body []).map iav).length : Int) = (timeL c.Body []).length := by simp
      change Tri _ _ _ _ (D (.bool (untilB c.Body)) []) at hH
      by_cases hn : n < 1 ∨ n > 64
      · rw [show cellsR c n = (0, 2) by unfold cellsR; rw [if_neg (by simp [hb]), if_pos hn]] at hC
        rw [show guessR c n = (0, 2) by unfold guessR; rw [if_neg (by simp [hb]), if_pos hn]] at hG
        rcases ref_wants hb hcnt with ⟨hu, ht⟩ | ⟨hu, hl, ht⟩ | ⟨hu, hl, ht⟩
        all_goals (rw [ht] at hT; rw [hu] at hH; dsimp only at hT hC hG)
        all_goals
          refine Tri.enter 135 Tryz.func4 rfl rfl rfl rfl fun Fr w0 => ?_
          repeat' (first
            | refine AW.seq ?_
            | (refine AW.region_at 0 ?_ <;> (first | refine AL.d (AOp.box_ro rfl rfl) ?_ | refine AL.d (AOp.box_ro rfl rfl) ?_) <;> refine AL.e ?_ <;> refine AL.nil ?_)
            | (refine AW.region_at 1 ?_ <;> refine AL.d AOp.la ?_ <;> (first | refine AL.d (AOp.call rfl rfl hF) ?_ | refine AL.d (AOp.call rfl rfl hT) ?_ | refine AL.d (AOp.call rfl rfl hC) ?_ | refine AL.d (AOp.call rfl rfl hG) ?_ | refine AL.d (AOp.call rfl rfl hV) ?_ | refine AL.d (AOp.call rfl rfl hH) ?_ | refine AL.d (AOp.call rfl rfl hR) ?_ | refine AL.d (AOp.call rfl rfl hE) ?_ | refine AL.d (AOp.call rfl rfl hE0) ?_ | refine AL.d (AOp.call rfl rfl hA) ?_) <;> refine AL.e ?_ <;> refine AL.nil ?_)
            | (refine AW.region_at 3 ?_ <;> refine AL.d AOp.la ?_ <;> (first | refine AL.d (AOp.call rfl rfl hF) ?_ | refine AL.d (AOp.call rfl rfl hT) ?_ | refine AL.d (AOp.call rfl rfl hC) ?_ | refine AL.d (AOp.call rfl rfl hG) ?_ | refine AL.d (AOp.call rfl rfl hV) ?_ | refine AL.d (AOp.call rfl rfl hH) ?_ | refine AL.d (AOp.call rfl rfl hR) ?_ | refine AL.d (AOp.call rfl rfl hE) ?_ | refine AL.d (AOp.call rfl rfl hE0) ?_ | refine AL.d (AOp.call rfl rfl hA) ?_) <;> refine AL.e ?_ <;> refine AL.e ?_ <;> refine AL.e ?_ <;> refine AL.e ?_ <;> refine AL.e ?_ <;> refine AL.nil ?_)
            | (refine AW.region_at 4 ?_ <;> refine AL.d AOp.la ?_ <;> refine AL.e ?_ <;> (first | refine AL.d (AOp.call rfl rfl hF) ?_ | refine AL.d (AOp.call rfl rfl hT) ?_ | refine AL.d (AOp.call rfl rfl hC) ?_ | refine AL.d (AOp.call rfl rfl hG) ?_ | refine AL.d (AOp.call rfl rfl hV) ?_ | refine AL.d (AOp.call rfl rfl hH) ?_ | refine AL.d (AOp.call rfl rfl hR) ?_ | refine AL.d (AOp.call rfl rfl hE) ?_ | refine AL.d (AOp.call rfl rfl hE0) ?_ | refine AL.d (AOp.call rfl rfl hA) ?_) <;> refine AL.e ?_ <;> refine AL.e ?_ <;> refine AL.e ?_ <;> refine AL.e ?_ <;> refine AL.e ?_ <;> refine AL.nil ?_)
            | (refine AW.region_at 5 ?_ <;> refine AL.d AOp.la ?_ <;> refine AL.e ?_ <;> (first | refine AL.d (AOp.call rfl rfl hF) ?_ | refine AL.d (AOp.call rfl rfl hT) ?_ | refine AL.d (AOp.call rfl rfl hC) ?_ | refine AL.d (AOp.call rfl rfl hG) ?_ | refine AL.d (AOp.call rfl rfl hV) ?_ | refine AL.d (AOp.call rfl rfl hH) ?_ | refine AL.d (AOp.call rfl rfl hR) ?_ | refine AL.d (AOp.call rfl rfl hE) ?_ | refine AL.d (AOp.call rfl rfl hE0) ?_ | refine AL.d (AOp.call rfl rfl hA) ?_) <;> refine AL.e ?_ <;> refine AL.e ?_ <;> refine AL.e ?_ <;> refine AL.e ?_ <;> refine AL.e ?_ <;> refine AL.nil ?_)
            | (refine AW.region_at 6 ?_ <;> refine AL.d AOp.la ?_ <;> (first | refine AL.d (AOp.call rfl rfl hF) ?_ | refine AL.d (AOp.call rfl rfl hT) ?_ | refine AL.d (AOp.call rfl rfl hC) ?_ | refine AL.d (AOp.call rfl rfl hG) ?_ | refine AL.d (AOp.call rfl rfl hV) ?_ | refine AL.d (AOp.call rfl rfl hH) ?_ | refine AL.d (AOp.call rfl rfl hR) ?_ | refine AL.d (AOp.call rfl rfl hE) ?_ | refine AL.d (AOp.call rfl rfl hE0) ?_ | refine AL.d (AOp.call rfl rfl hA) ?_) <;> refine AL.e ?_ <;> refine AL.nil ?_)
            | (refine AW.region_at 8 ?_ <;> refine AL.e ?_ <;> refine AL.nil ?_)
            | (refine AW.region_at 9 ?_ <;> refine AL.e ?_ <;> refine AL.nil ?_)
            | (refine AW.region_at 10 ?_ <;> (first | refine AL.d AOp.fa ?_ | refine AL.d (AOp.fr 3) ?_) <;> refine AL.d AOp.la ?_ <;> (first | refine AL.d (AOp.call rfl rfl hF) ?_ | refine AL.d (AOp.call rfl rfl hT) ?_ | refine AL.d (AOp.call rfl rfl hC) ?_ | refine AL.d (AOp.call rfl rfl hG) ?_ | refine AL.d (AOp.call rfl rfl hV) ?_ | refine AL.d (AOp.call rfl rfl hH) ?_ | refine AL.d (AOp.call rfl rfl hR) ?_ | refine AL.d (AOp.call rfl rfl hE) ?_ | refine AL.d (AOp.call rfl rfl hE0) ?_ | refine AL.d (AOp.call rfl rfl hA) ?_) <;> refine AL.e ?_ <;> refine AL.nil ?_)
            | (refine AW.region_at 11 ?_ <;> (first | refine AL.d AOp.fa ?_ | refine AL.d (AOp.fr 3) ?_) <;> refine AL.d AOp.la ?_ <;> (first | refine AL.d (AOp.call rfl rfl hF) ?_ | refine AL.d (AOp.call rfl rfl hT) ?_ | refine AL.d (AOp.call rfl rfl hC) ?_ | refine AL.d (AOp.call rfl rfl hG) ?_ | refine AL.d (AOp.call rfl rfl hV) ?_ | refine AL.d (AOp.call rfl rfl hH) ?_ | refine AL.d (AOp.call rfl rfl hR) ?_ | refine AL.d (AOp.call rfl rfl hE) ?_ | refine AL.d (AOp.call rfl rfl hE0) ?_ | refine AL.d (AOp.call rfl rfl hA) ?_) <;> refine AL.e ?_ <;> refine AL.e ?_ <;> refine AL.nil ?_)
            | (refine AW.region_at 12 ?_ <;> refine AL.e ?_ <;> refine AL.d AOp.ln ?_ <;> refine AL.e ?_ <;> refine AL.nil ?_)
            | (refine AW.region_at 13 ?_ <;> refine AL.e ?_ <;> refine AL.e ?_ <;> refine AL.nil ?_)
            | (refine AW.region_at 14 ?_ <;> refine AL.e ?_ <;> refine AL.e ?_ <;> refine AL.e ?_ <;> refine AL.e ?_ <;> (first | (refine AL.gd ?_; refine AL.e ?_) | refine AL.gs ?_ | refine AL.gu ?_ | (refine AL.gx (fun hb => ?_) (fun hb => ?_) <;> first | (refine AL.gd ?_; refine AL.e ?_) | refine AL.gs ?_)) <;> (first | (refine AL.gd ?_; refine AL.e ?_) | refine AL.gs ?_ | refine AL.gu ?_) <;> (first | (refine AL.gd ?_; (first | refine AL.d (AOp.call rfl rfl hF) ?_ | refine AL.d (AOp.call rfl rfl hT) ?_ | refine AL.d (AOp.call rfl rfl hC) ?_ | refine AL.d (AOp.call rfl rfl hG) ?_ | refine AL.d (AOp.call rfl rfl hV) ?_ | refine AL.d (AOp.call rfl rfl hH) ?_ | refine AL.d (AOp.call rfl rfl hR) ?_ | refine AL.d (AOp.call rfl rfl hE) ?_ | refine AL.d (AOp.call rfl rfl hE0) ?_ | refine AL.d (AOp.call rfl rfl hA) ?_)) | refine AL.gs ?_ | refine AL.gu ?_) <;> (first | (refine AL.gd ?_; refine AL.e ?_) | refine AL.gs ?_ | refine AL.gu ?_) <;> refine AL.e ?_ <;> refine AL.nil ?_)
            | (refine AW.region_at 15 ?_ <;> refine AL.e ?_ <;> refine AL.nil ?_)
            | (refine AW.region_at 16 ?_ <;> refine AL.e ?_ <;> refine AL.e ?_ <;> refine AL.e ?_ <;> (first | (refine AL.gd ?_; refine AL.e ?_) | refine AL.gs ?_ | refine AL.gu ?_ | (refine AL.gx (fun hb => ?_) (fun hb => ?_) <;> first | (refine AL.gd ?_; refine AL.e ?_) | refine AL.gs ?_)) <;> (first | (refine AL.gd ?_; refine AL.e ?_) | refine AL.gs ?_ | refine AL.gu ?_) <;> refine AL.e ?_ <;> refine AL.nil ?_)
            | (refine AW.region_at 17 ?_ <;> refine AL.e ?_ <;> refine AL.e ?_ <;> refine AL.e ?_ <;> (first | (refine AL.gd ?_; refine AL.e ?_) | refine AL.gs ?_ | refine AL.gu ?_ | (refine AL.gx (fun hb => ?_) (fun hb => ?_) <;> first | (refine AL.gd ?_; refine AL.e ?_) | refine AL.gs ?_)) <;> (first | (refine AL.gd ?_; refine AL.e ?_) | refine AL.gs ?_ | refine AL.gu ?_) <;> refine AL.e ?_ <;> refine AL.e ?_ <;> (first | (refine AL.gd ?_; refine AL.e ?_) | refine AL.gs ?_ | refine AL.gu ?_ | (refine AL.gx (fun hb => ?_) (fun hb => ?_) <;> first | (refine AL.gd ?_; refine AL.e ?_) | refine AL.gs ?_)) <;> (first | (refine AL.gd ?_; refine AL.e ?_) | refine AL.gs ?_ | refine AL.gu ?_) <;> (first | (refine AL.gd ?_; refine AL.d AOp.ad ?_) | refine AL.gs ?_ | refine AL.gu ?_) <;> (first | (refine AL.gd ?_; refine AL.e ?_) | refine AL.gs ?_ | refine AL.gu ?_) <;> refine AL.e ?_ <;> refine AL.e ?_ <;> (first | (refine AL.gd ?_; (first | refine AL.d (AOp.call rfl rfl hF) ?_ | refine AL.d (AOp.call rfl rfl hT) ?_ | refine AL.d (AOp.call rfl rfl hC) ?_ | refine AL.d (AOp.call rfl rfl hG) ?_ | refine AL.d (AOp.call rfl rfl hV) ?_ | refine AL.d (AOp.call rfl rfl hH) ?_ | refine AL.d (AOp.call rfl rfl hR) ?_ | refine AL.d (AOp.call rfl rfl hE) ?_ | refine AL.d (AOp.call rfl rfl hE0) ?_ | refine AL.d (AOp.call rfl rfl hA) ?_)) | refine AL.gs ?_ | refine AL.gu ?_ | (refine AL.gx (fun hb => ?_) (fun hb => ?_) <;> first | (refine AL.gd ?_; (first | refine AL.d (AOp.call rfl rfl hF) ?_ | refine AL.d (AOp.call rfl rfl hT) ?_ | refine AL.d (AOp.call rfl rfl hC) ?_ | refine AL.d (AOp.call rfl rfl hG) ?_ | refine AL.d (AOp.call rfl rfl hV) ?_ | refine AL.d (AOp.call rfl rfl hH) ?_ | refine AL.d (AOp.call rfl rfl hR) ?_ | refine AL.d (AOp.call rfl rfl hE) ?_ | refine AL.d (AOp.call rfl rfl hE0) ?_ | refine AL.d (AOp.call rfl rfl hA) ?_)) | refine AL.gs ?_)) <;> refine AL.e ?_ <;> refine AL.e ?_ <;> refine AL.nil ?_)
            | refine AW.cond_true rfl ?_
            | refine AW.cond_false rfl ?_
            | refine AW.block ?_
            | refine AW.endblk ?_
            | refine AW.skip ?_
            | refine AW.exit rfl ?_
            | refine AW.label ?_
            | refine AW.j (fun hb => ?_) (fun hb => ?_))
          all_goals first
            | exact AW.retv rfl ⟨rfl, rfl⟩
            | (exfalso; simp only [decide_eq_true_eq, decide_eq_false_iff_not] at *; omega)
      · have hn' : 1 ≤ n ∧ n ≤ 64 := by omega
        have hRC := ref_Cells c hc hb n hn'
        have hRG := ref_Guesses c hc hb n hn'
        have hN1 := law_number (totR (cellsN c n)).1 (totR (cellsN c n)).2 (cellsN c n)
        have hN2 := law_number (totR (guessN c n)).1 (totR (guessN c n)).2 (guessN c n)
        rw [num_tot] at hN1 hN2
        rw [show cellsR c n = totR (cellsN c n) by unfold cellsR; rw [if_neg (by simp [hb]), if_neg hn]] at hC
        cases hi : insideB c.Body with
        | true =>
          rw [hi] at hI
          rw [show guessR c n = (0, 6) by unfold guessR; rw [if_neg (by simp [hb]), if_neg hn, if_pos hi]] at hG
          rcases ref_wants hb hcnt with ⟨hu, ht⟩ | ⟨hu, hl, ht⟩ | ⟨hu, hl, ht⟩
          all_goals (rw [ht] at hT; rw [hu] at hH; dsimp only at hT hC hG)
          all_goals
            refine Tri.enter 135 Tryz.func4 rfl rfl rfl rfl fun Fr w0 => ?_
            repeat' (first
              | refine AW.seq ?_
              | (refine AW.region_at 0 ?_ <;> (first | refine AL.d (AOp.box_ro rfl rfl) ?_ | refine AL.d (AOp.box_ro rfl rfl) ?_) <;> refine AL.e ?_ <;> refine AL.nil ?_)
              | (refine AW.region_at 1 ?_ <;> refine AL.d AOp.la ?_ <;> (first | refine AL.d (AOp.call rfl rfl hF) ?_ | refine AL.d (AOp.call rfl rfl hT) ?_ | refine AL.d (AOp.call rfl rfl hC) ?_ | refine AL.d (AOp.call rfl rfl hG) ?_ | refine AL.d (AOp.call rfl rfl hV) ?_ | refine AL.d (AOp.call rfl rfl hH) ?_ | refine AL.d (AOp.call rfl rfl hR) ?_ | refine AL.d (AOp.call rfl rfl hE) ?_ | refine AL.d (AOp.call rfl rfl hE0) ?_ | refine AL.d (AOp.call rfl rfl hA) ?_ | refine AL.d (AOp.call rfl rfl hRC) ?_ | refine AL.d (AOp.call rfl rfl hN1) ?_ | refine AL.d (AOp.call rfl rfl hI) ?_) <;> refine AL.e ?_ <;> refine AL.nil ?_)
              | (refine AW.region_at 3 ?_ <;> refine AL.d AOp.la ?_ <;> (first | refine AL.d (AOp.call rfl rfl hF) ?_ | refine AL.d (AOp.call rfl rfl hT) ?_ | refine AL.d (AOp.call rfl rfl hC) ?_ | refine AL.d (AOp.call rfl rfl hG) ?_ | refine AL.d (AOp.call rfl rfl hV) ?_ | refine AL.d (AOp.call rfl rfl hH) ?_ | refine AL.d (AOp.call rfl rfl hR) ?_ | refine AL.d (AOp.call rfl rfl hE) ?_ | refine AL.d (AOp.call rfl rfl hE0) ?_ | refine AL.d (AOp.call rfl rfl hA) ?_ | refine AL.d (AOp.call rfl rfl hRC) ?_ | refine AL.d (AOp.call rfl rfl hN1) ?_ | refine AL.d (AOp.call rfl rfl hI) ?_) <;> refine AL.e ?_ <;> refine AL.e ?_ <;> refine AL.e ?_ <;> refine AL.e ?_ <;> refine AL.e ?_ <;> refine AL.nil ?_)
              | (refine AW.region_at 4 ?_ <;> refine AL.d AOp.la ?_ <;> refine AL.e ?_ <;> (first | refine AL.d (AOp.call rfl rfl hF) ?_ | refine AL.d (AOp.call rfl rfl hT) ?_ | refine AL.d (AOp.call rfl rfl hC) ?_ | refine AL.d (AOp.call rfl rfl hG) ?_ | refine AL.d (AOp.call rfl rfl hV) ?_ | refine AL.d (AOp.call rfl rfl hH) ?_ | refine AL.d (AOp.call rfl rfl hR) ?_ | refine AL.d (AOp.call rfl rfl hE) ?_ | refine AL.d (AOp.call rfl rfl hE0) ?_ | refine AL.d (AOp.call rfl rfl hA) ?_ | refine AL.d (AOp.call rfl rfl hRC) ?_ | refine AL.d (AOp.call rfl rfl hN1) ?_ | refine AL.d (AOp.call rfl rfl hI) ?_) <;> refine AL.e ?_ <;> refine AL.e ?_ <;> refine AL.e ?_ <;> refine AL.e ?_ <;> refine AL.e ?_ <;> refine AL.nil ?_)
              | (refine AW.region_at 5 ?_ <;> refine AL.d AOp.la ?_ <;> refine AL.e ?_ <;> (first | refine AL.d (AOp.call rfl rfl hF) ?_ | refine AL.d (AOp.call rfl rfl hT) ?_ | refine AL.d (AOp.call rfl rfl hC) ?_ | refine AL.d (AOp.call rfl rfl hG) ?_ | refine AL.d (AOp.call rfl rfl hV) ?_ | refine AL.d (AOp.call rfl rfl hH) ?_ | refine AL.d (AOp.call rfl rfl hR) ?_ | refine AL.d (AOp.call rfl rfl hE) ?_ | refine AL.d (AOp.call rfl rfl hE0) ?_ | refine AL.d (AOp.call rfl rfl hA) ?_ | refine AL.d (AOp.call rfl rfl hRC) ?_ | refine AL.d (AOp.call rfl rfl hN1) ?_ | refine AL.d (AOp.call rfl rfl hI) ?_) <;> refine AL.e ?_ <;> refine AL.e ?_ <;> refine AL.e ?_ <;> refine AL.e ?_ <;> refine AL.e ?_ <;> refine AL.nil ?_)
              | (refine AW.region_at 6 ?_ <;> refine AL.d AOp.la ?_ <;> (first | refine AL.d (AOp.call rfl rfl hF) ?_ | refine AL.d (AOp.call rfl rfl hT) ?_ | refine AL.d (AOp.call rfl rfl hC) ?_ | refine AL.d (AOp.call rfl rfl hG) ?_ | refine AL.d (AOp.call rfl rfl hV) ?_ | refine AL.d (AOp.call rfl rfl hH) ?_ | refine AL.d (AOp.call rfl rfl hR) ?_ | refine AL.d (AOp.call rfl rfl hE) ?_ | refine AL.d (AOp.call rfl rfl hE0) ?_ | refine AL.d (AOp.call rfl rfl hA) ?_ | refine AL.d (AOp.call rfl rfl hRC) ?_ | refine AL.d (AOp.call rfl rfl hN1) ?_ | refine AL.d (AOp.call rfl rfl hI) ?_) <;> refine AL.e ?_ <;> refine AL.nil ?_)
              | (refine AW.region_at 8 ?_ <;> refine AL.e ?_ <;> refine AL.nil ?_)
              | (refine AW.region_at 9 ?_ <;> refine AL.e ?_ <;> refine AL.nil ?_)
              | (refine AW.region_at 10 ?_ <;> (first | refine AL.d AOp.fa ?_ | refine AL.d (AOp.fr 3) ?_) <;> refine AL.d AOp.la ?_ <;> (first | refine AL.d (AOp.call rfl rfl hF) ?_ | refine AL.d (AOp.call rfl rfl hT) ?_ | refine AL.d (AOp.call rfl rfl hC) ?_ | refine AL.d (AOp.call rfl rfl hG) ?_ | refine AL.d (AOp.call rfl rfl hV) ?_ | refine AL.d (AOp.call rfl rfl hH) ?_ | refine AL.d (AOp.call rfl rfl hR) ?_ | refine AL.d (AOp.call rfl rfl hE) ?_ | refine AL.d (AOp.call rfl rfl hE0) ?_ | refine AL.d (AOp.call rfl rfl hA) ?_ | refine AL.d (AOp.call rfl rfl hRC) ?_ | refine AL.d (AOp.call rfl rfl hN1) ?_ | refine AL.d (AOp.call rfl rfl hI) ?_) <;> refine AL.e ?_ <;> refine AL.nil ?_)
              | (refine AW.region_at 11 ?_ <;> (first | refine AL.d AOp.fa ?_ | refine AL.d (AOp.fr 3) ?_) <;> refine AL.d AOp.la ?_ <;> (first | refine AL.d (AOp.call rfl rfl hF) ?_ | refine AL.d (AOp.call rfl rfl hT) ?_ | refine AL.d (AOp.call rfl rfl hC) ?_ | refine AL.d (AOp.call rfl rfl hG) ?_ | refine AL.d (AOp.call rfl rfl hV) ?_ | refine AL.d (AOp.call rfl rfl hH) ?_ | refine AL.d (AOp.call rfl rfl hR) ?_ | refine AL.d (AOp.call rfl rfl hE) ?_ | refine AL.d (AOp.call rfl rfl hE0) ?_ | refine AL.d (AOp.call rfl rfl hA) ?_ | refine AL.d (AOp.call rfl rfl hRC) ?_ | refine AL.d (AOp.call rfl rfl hN1) ?_ | refine AL.d (AOp.call rfl rfl hI) ?_) <;> refine AL.e ?_ <;> refine AL.e ?_ <;> refine AL.nil ?_)
              | (refine AW.region_at 12 ?_ <;> refine AL.e ?_ <;> refine AL.d AOp.ln ?_ <;> refine AL.e ?_ <;> refine AL.nil ?_)
              | (refine AW.region_at 13 ?_ <;> refine AL.e ?_ <;> refine AL.e ?_ <;> refine AL.nil ?_)
              | (refine AW.region_at 14 ?_ <;> refine AL.e ?_ <;> refine AL.e ?_ <;> refine AL.e ?_ <;> refine AL.e ?_ <;> (first | (refine AL.gd ?_; refine AL.e ?_) | refine AL.gs ?_ | refine AL.gu ?_ | (refine AL.gx (fun hb => ?_) (fun hb => ?_) <;> first | (refine AL.gd ?_; refine AL.e ?_) | refine AL.gs ?_)) <;> (first | (refine AL.gd ?_; refine AL.e ?_) | refine AL.gs ?_ | refine AL.gu ?_) <;> (first | (refine AL.gd ?_; (first | refine AL.d (AOp.call rfl rfl hF) ?_ | refine AL.d (AOp.call rfl rfl hT) ?_ | refine AL.d (AOp.call rfl rfl hC) ?_ | refine AL.d (AOp.call rfl rfl hG) ?_ | refine AL.d (AOp.call rfl rfl hV) ?_ | refine AL.d (AOp.call rfl rfl hH) ?_ | refine AL.d (AOp.call rfl rfl hR) ?_ | refine AL.d (AOp.call rfl rfl hE) ?_ | refine AL.d (AOp.call rfl rfl hE0) ?_ | refine AL.d (AOp.call rfl rfl hA) ?_ | refine AL.d (AOp.call rfl rfl hRC) ?_ | refine AL.d (AOp.call rfl rfl hN1) ?_ | refine AL.d (AOp.call rfl rfl hI) ?_)) | refine AL.gs ?_ | refine AL.gu ?_) <;> (first | (refine AL.gd ?_; refine AL.e ?_) | refine AL.gs ?_ | refine AL.gu ?_) <;> refine AL.e ?_ <;> refine AL.nil ?_)
              | (refine AW.region_at 15 ?_ <;> refine AL.e ?_ <;> refine AL.nil ?_)
              | (refine AW.region_at 16 ?_ <;> refine AL.e ?_ <;> refine AL.e ?_ <;> refine AL.e ?_ <;> (first | (refine AL.gd ?_; refine AL.e ?_) | refine AL.gs ?_ | refine AL.gu ?_ | (refine AL.gx (fun hb => ?_) (fun hb => ?_) <;> first | (refine AL.gd ?_; refine AL.e ?_) | refine AL.gs ?_)) <;> (first | (refine AL.gd ?_; refine AL.e ?_) | refine AL.gs ?_ | refine AL.gu ?_) <;> refine AL.e ?_ <;> refine AL.nil ?_)
              | (refine AW.region_at 18 ?_ <;> refine AL.e ?_ <;> refine AL.e ?_ <;> refine AL.d AOp.la ?_ <;> refine AL.e ?_ <;> (first | refine AL.d (AOp.call rfl rfl hF) ?_ | refine AL.d (AOp.call rfl rfl hT) ?_ | refine AL.d (AOp.call rfl rfl hC) ?_ | refine AL.d (AOp.call rfl rfl hG) ?_ | refine AL.d (AOp.call rfl rfl hV) ?_ | refine AL.d (AOp.call rfl rfl hH) ?_ | refine AL.d (AOp.call rfl rfl hR) ?_ | refine AL.d (AOp.call rfl rfl hE) ?_ | refine AL.d (AOp.call rfl rfl hE0) ?_ | refine AL.d (AOp.call rfl rfl hA) ?_ | refine AL.d (AOp.call rfl rfl hRC) ?_ | refine AL.d (AOp.call rfl rfl hN1) ?_ | refine AL.d (AOp.call rfl rfl hI) ?_) <;> (first | refine AL.d (AOp.call rfl rfl hF) ?_ | refine AL.d (AOp.call rfl rfl hT) ?_ | refine AL.d (AOp.call rfl rfl hC) ?_ | refine AL.d (AOp.call rfl rfl hG) ?_ | refine AL.d (AOp.call rfl rfl hV) ?_ | refine AL.d (AOp.call rfl rfl hH) ?_ | refine AL.d (AOp.call rfl rfl hR) ?_ | refine AL.d (AOp.call rfl rfl hE) ?_ | refine AL.d (AOp.call rfl rfl hE0) ?_ | refine AL.d (AOp.call rfl rfl hA) ?_ | refine AL.d (AOp.call rfl rfl hRC) ?_ | refine AL.d (AOp.call rfl rfl hN1) ?_ | refine AL.d (AOp.call rfl rfl hI) ?_) <;> refine AL.e ?_ <;> (first | (refine AL.gd ?_; (first | refine AL.d AOp.fa ?_ | refine AL.d (AOp.fr 3) ?_)) | refine AL.gs ?_ | refine AL.gu ?_ | (refine AL.gx (fun hb => ?_) (fun hb => ?_) <;> first | (refine AL.gd ?_; (first | refine AL.d AOp.fa ?_ | refine AL.d (AOp.fr 3) ?_)) | refine AL.gs ?_)) <;> (first | (refine AL.gd ?_; refine AL.d AOp.la ?_) | refine AL.gs ?_ | refine AL.gu ?_) <;> (first | (refine AL.gd ?_; (first | refine AL.d (AOp.call rfl rfl hF) ?_ | refine AL.d (AOp.call rfl rfl hT) ?_ | refine AL.d (AOp.call rfl rfl hC) ?_ | refine AL.d (AOp.call rfl rfl hG) ?_ | refine AL.d (AOp.call rfl rfl hV) ?_ | refine AL.d (AOp.call rfl rfl hH) ?_ | refine AL.d (AOp.call rfl rfl hR) ?_ | refine AL.d (AOp.call rfl rfl hE) ?_ | refine AL.d (AOp.call rfl rfl hE0) ?_ | refine AL.d (AOp.call rfl rfl hA) ?_ | refine AL.d (AOp.call rfl rfl hRC) ?_ | refine AL.d (AOp.call rfl rfl hN1) ?_ | refine AL.d (AOp.call rfl rfl hI) ?_)) | refine AL.gs ?_ | refine AL.gu ?_) <;> (first | (refine AL.gd ?_; refine AL.e ?_) | refine AL.gs ?_ | refine AL.gu ?_) <;> (first | (refine AL.gd ?_; refine AL.e ?_) | refine AL.gs ?_ | refine AL.gu ?_ | (refine AL.gx (fun hb => ?_) (fun hb => ?_) <;> first | (refine AL.gd ?_; refine AL.e ?_) | refine AL.gs ?_)) <;> (first | (refine AL.gd ?_; refine AL.e ?_) | refine AL.gs ?_ | refine AL.gu ?_) <;> (first | (refine AL.gd ?_; refine AL.e ?_) | refine AL.gs ?_ | refine AL.gu ?_) <;> (first | (refine AL.gd ?_; refine AL.e ?_) | refine AL.gs ?_ | refine AL.gu ?_) <;> (first | (refine AL.gd ?_; refine AL.e ?_) | refine AL.gs ?_ | refine AL.gu ?_ | (refine AL.gx (fun hb => ?_) (fun hb => ?_) <;> first | (refine AL.gd ?_; refine AL.e ?_) | refine AL.gs ?_)) <;> (first | (refine AL.gd ?_; refine AL.e ?_) | refine AL.gs ?_ | refine AL.gu ?_) <;> (first | (refine AL.gd ?_; refine AL.e ?_) | refine AL.gs ?_ | refine AL.gu ?_) <;> (first | (refine AL.gd ?_; refine AL.e ?_) | refine AL.gs ?_ | refine AL.gu ?_) <;> (first | (refine AL.gd ?_; (first | refine AL.d AOp.fa ?_ | refine AL.d (AOp.fr 3) ?_)) | refine AL.gs ?_ | refine AL.gu ?_ | (refine AL.gx (fun hb => ?_) (fun hb => ?_) <;> first | (refine AL.gd ?_; (first | refine AL.d AOp.fa ?_ | refine AL.d (AOp.fr 3) ?_)) | refine AL.gs ?_)) <;> (first | (refine AL.gd ?_; refine AL.d AOp.la ?_) | refine AL.gs ?_ | refine AL.gu ?_) <;> (first | (refine AL.gd ?_; (first | refine AL.d (AOp.call rfl rfl hF) ?_ | refine AL.d (AOp.call rfl rfl hT) ?_ | refine AL.d (AOp.call rfl rfl hC) ?_ | refine AL.d (AOp.call rfl rfl hG) ?_ | refine AL.d (AOp.call rfl rfl hV) ?_ | refine AL.d (AOp.call rfl rfl hH) ?_ | refine AL.d (AOp.call rfl rfl hR) ?_ | refine AL.d (AOp.call rfl rfl hE) ?_ | refine AL.d (AOp.call rfl rfl hE0) ?_ | refine AL.d (AOp.call rfl rfl hA) ?_ | refine AL.d (AOp.call rfl rfl hRC) ?_ | refine AL.d (AOp.call rfl rfl hN1) ?_ | refine AL.d (AOp.call rfl rfl hI) ?_)) | refine AL.gs ?_ | refine AL.gu ?_) <;> (first | (refine AL.gd ?_; refine AL.e ?_) | refine AL.gs ?_ | refine AL.gu ?_) <;> (first | (refine AL.gd ?_; refine AL.e ?_) | refine AL.gs ?_ | refine AL.gu ?_) <;> (first | (refine AL.gd ?_; refine AL.e ?_) | refine AL.gs ?_ | refine AL.gu ?_ | (refine AL.gx (fun hb => ?_) (fun hb => ?_) <;> first | (refine AL.gd ?_; refine AL.e ?_) | refine AL.gs ?_)) <;> (first | (refine AL.gd ?_; refine AL.e ?_) | refine AL.gs ?_ | refine AL.gu ?_) <;> (first | (refine AL.gd ?_; refine AL.d AOp.la ?_) | refine AL.gs ?_ | refine AL.gu ?_) <;> (first | (refine AL.gd ?_; refine AL.e ?_) | refine AL.gs ?_ | refine AL.gu ?_) <;> (first | (refine AL.gd ?_; (first | refine AL.d (AOp.call rfl rfl hF) ?_ | refine AL.d (AOp.call rfl rfl hT) ?_ | refine AL.d (AOp.call rfl rfl hC) ?_ | refine AL.d (AOp.call rfl rfl hG) ?_ | refine AL.d (AOp.call rfl rfl hV) ?_ | refine AL.d (AOp.call rfl rfl hH) ?_ | refine AL.d (AOp.call rfl rfl hR) ?_ | refine AL.d (AOp.call rfl rfl hE) ?_ | refine AL.d (AOp.call rfl rfl hE0) ?_ | refine AL.d (AOp.call rfl rfl hA) ?_ | refine AL.d (AOp.call rfl rfl hRC) ?_ | refine AL.d (AOp.call rfl rfl hN1) ?_ | refine AL.d (AOp.call rfl rfl hI) ?_)) | refine AL.gs ?_ | refine AL.gu ?_) <;> (first | (refine AL.gd ?_; (first | refine AL.d (AOp.call rfl rfl hF) ?_ | refine AL.d (AOp.call rfl rfl hT) ?_ | refine AL.d (AOp.call rfl rfl hC) ?_ | refine AL.d (AOp.call rfl rfl hG) ?_ | refine AL.d (AOp.call rfl rfl hV) ?_ | refine AL.d (AOp.call rfl rfl hH) ?_ | refine AL.d (AOp.call rfl rfl hR) ?_ | refine AL.d (AOp.call rfl rfl hE) ?_ | refine AL.d (AOp.call rfl rfl hE0) ?_ | refine AL.d (AOp.call rfl rfl hA) ?_ | refine AL.d (AOp.call rfl rfl hRC) ?_ | refine AL.d (AOp.call rfl rfl hN1) ?_ | refine AL.d (AOp.call rfl rfl hI) ?_)) | refine AL.gs ?_ | refine AL.gu ?_) <;> (first | (refine AL.gd ?_; refine AL.e ?_) | refine AL.gs ?_ | refine AL.gu ?_) <;> (first | (refine AL.gd ?_; refine AL.e ?_) | refine AL.gs ?_ | refine AL.gu ?_) <;> refine AL.e ?_ <;> refine AL.e ?_ <;> (first | (refine AL.gd ?_; (first | refine AL.d (AOp.call rfl rfl hF) ?_ | refine AL.d (AOp.call rfl rfl hT) ?_ | refine AL.d (AOp.call rfl rfl hC) ?_ | refine AL.d (AOp.call rfl rfl hG) ?_ | refine AL.d (AOp.call rfl rfl hV) ?_ | refine AL.d (AOp.call rfl rfl hH) ?_ | refine AL.d (AOp.call rfl rfl hR) ?_ | refine AL.d (AOp.call rfl rfl hE) ?_ | refine AL.d (AOp.call rfl rfl hE0) ?_ | refine AL.d (AOp.call rfl rfl hA) ?_ | refine AL.d (AOp.call rfl rfl hRC) ?_ | refine AL.d (AOp.call rfl rfl hN1) ?_ | refine AL.d (AOp.call rfl rfl hI) ?_)) | refine AL.gs ?_ | refine AL.gu ?_ | (refine AL.gx (fun hb => ?_) (fun hb => ?_) <;> first | (refine AL.gd ?_; (first | refine AL.d (AOp.call rfl rfl hF) ?_ | refine AL.d (AOp.call rfl rfl hT) ?_ | refine AL.d (AOp.call rfl rfl hC) ?_ | refine AL.d (AOp.call rfl rfl hG) ?_ | refine AL.d (AOp.call rfl rfl hV) ?_ | refine AL.d (AOp.call rfl rfl hH) ?_ | refine AL.d (AOp.call rfl rfl hR) ?_ | refine AL.d (AOp.call rfl rfl hE) ?_ | refine AL.d (AOp.call rfl rfl hE0) ?_ | refine AL.d (AOp.call rfl rfl hA) ?_ | refine AL.d (AOp.call rfl rfl hRC) ?_ | refine AL.d (AOp.call rfl rfl hN1) ?_ | refine AL.d (AOp.call rfl rfl hI) ?_)) | refine AL.gs ?_)) <;> refine AL.e ?_ <;> refine AL.e ?_ <;> refine AL.nil ?_)
              | refine AW.cond_true rfl ?_
              | refine AW.cond_false rfl ?_
              | refine AW.block ?_
              | refine AW.endblk ?_
              | refine AW.skip ?_
              | refine AW.exit rfl ?_
              | refine AW.label ?_
              | refine AW.j (fun hb => ?_) (fun hb => ?_))
            all_goals first
              | exact AW.retv rfl ⟨rfl, rfl⟩
              | (exfalso; simp only [decide_eq_true_eq, decide_eq_false_iff_not] at *; omega)
        | false =>
          rw [hi] at hI
          rw [show guessR c n = totR (guessN c n) by unfold guessR; rw [if_neg (by simp [hb]), if_neg hn, if_neg (by simp [hi])]] at hG
          rcases ref_wants hb hcnt with ⟨hu, ht⟩ | ⟨hu, hl, ht⟩ | ⟨hu, hl, ht⟩
          all_goals (rw [ht] at hT; rw [hu] at hH; dsimp only at hT hC hG)
          all_goals
            refine Tri.enter 135 Tryz.func4 rfl rfl rfl rfl fun Fr w0 => ?_
            repeat' (first
              | refine AW.seq ?_
              | (refine AW.region_at 0 ?_ <;> (first | refine AL.d (AOp.box_ro rfl rfl) ?_ | refine AL.d (AOp.box_ro rfl rfl) ?_) <;> refine AL.e ?_ <;> refine AL.nil ?_)
              | (refine AW.region_at 1 ?_ <;> refine AL.d AOp.la ?_ <;> (first | refine AL.d (AOp.call rfl rfl hF) ?_ | refine AL.d (AOp.call rfl rfl hT) ?_ | refine AL.d (AOp.call rfl rfl hC) ?_ | refine AL.d (AOp.call rfl rfl hG) ?_ | refine AL.d (AOp.call rfl rfl hV) ?_ | refine AL.d (AOp.call rfl rfl hH) ?_ | refine AL.d (AOp.call rfl rfl hR) ?_ | refine AL.d (AOp.call rfl rfl hE) ?_ | refine AL.d (AOp.call rfl rfl hE0) ?_ | refine AL.d (AOp.call rfl rfl hA) ?_ | refine AL.d (AOp.call rfl rfl hRC) ?_ | refine AL.d (AOp.call rfl rfl hRG) ?_ | refine AL.d (AOp.call rfl rfl hN1) ?_ | refine AL.d (AOp.call rfl rfl hN2) ?_ | refine AL.d (AOp.call rfl rfl hI) ?_) <;> refine AL.e ?_ <;> refine AL.nil ?_)
              | (refine AW.region_at 3 ?_ <;> refine AL.d AOp.la ?_ <;> (first | refine AL.d (AOp.call rfl rfl hF) ?_ | refine AL.d (AOp.call rfl rfl hT) ?_ | refine AL.d (AOp.call rfl rfl hC) ?_ | refine AL.d (AOp.call rfl rfl hG) ?_ | refine AL.d (AOp.call rfl rfl hV) ?_ | refine AL.d (AOp.call rfl rfl hH) ?_ | refine AL.d (AOp.call rfl rfl hR) ?_ | refine AL.d (AOp.call rfl rfl hE) ?_ | refine AL.d (AOp.call rfl rfl hE0) ?_ | refine AL.d (AOp.call rfl rfl hA) ?_ | refine AL.d (AOp.call rfl rfl hRC) ?_ | refine AL.d (AOp.call rfl rfl hRG) ?_ | refine AL.d (AOp.call rfl rfl hN1) ?_ | refine AL.d (AOp.call rfl rfl hN2) ?_ | refine AL.d (AOp.call rfl rfl hI) ?_) <;> refine AL.e ?_ <;> refine AL.e ?_ <;> refine AL.e ?_ <;> refine AL.e ?_ <;> refine AL.e ?_ <;> refine AL.nil ?_)
              | (refine AW.region_at 4 ?_ <;> refine AL.d AOp.la ?_ <;> refine AL.e ?_ <;> (first | refine AL.d (AOp.call rfl rfl hF) ?_ | refine AL.d (AOp.call rfl rfl hT) ?_ | refine AL.d (AOp.call rfl rfl hC) ?_ | refine AL.d (AOp.call rfl rfl hG) ?_ | refine AL.d (AOp.call rfl rfl hV) ?_ | refine AL.d (AOp.call rfl rfl hH) ?_ | refine AL.d (AOp.call rfl rfl hR) ?_ | refine AL.d (AOp.call rfl rfl hE) ?_ | refine AL.d (AOp.call rfl rfl hE0) ?_ | refine AL.d (AOp.call rfl rfl hA) ?_ | refine AL.d (AOp.call rfl rfl hRC) ?_ | refine AL.d (AOp.call rfl rfl hRG) ?_ | refine AL.d (AOp.call rfl rfl hN1) ?_ | refine AL.d (AOp.call rfl rfl hN2) ?_ | refine AL.d (AOp.call rfl rfl hI) ?_) <;> refine AL.e ?_ <;> refine AL.e ?_ <;> refine AL.e ?_ <;> refine AL.e ?_ <;> refine AL.e ?_ <;> refine AL.nil ?_)
              | (refine AW.region_at 5 ?_ <;> refine AL.d AOp.la ?_ <;> refine AL.e ?_ <;> (first | refine AL.d (AOp.call rfl rfl hF) ?_ | refine AL.d (AOp.call rfl rfl hT) ?_ | refine AL.d (AOp.call rfl rfl hC) ?_ | refine AL.d (AOp.call rfl rfl hG) ?_ | refine AL.d (AOp.call rfl rfl hV) ?_ | refine AL.d (AOp.call rfl rfl hH) ?_ | refine AL.d (AOp.call rfl rfl hR) ?_ | refine AL.d (AOp.call rfl rfl hE) ?_ | refine AL.d (AOp.call rfl rfl hE0) ?_ | refine AL.d (AOp.call rfl rfl hA) ?_ | refine AL.d (AOp.call rfl rfl hRC) ?_ | refine AL.d (AOp.call rfl rfl hRG) ?_ | refine AL.d (AOp.call rfl rfl hN1) ?_ | refine AL.d (AOp.call rfl rfl hN2) ?_ | refine AL.d (AOp.call rfl rfl hI) ?_) <;> refine AL.e ?_ <;> refine AL.e ?_ <;> refine AL.e ?_ <;> refine AL.e ?_ <;> refine AL.e ?_ <;> refine AL.nil ?_)
              | (refine AW.region_at 6 ?_ <;> refine AL.d AOp.la ?_ <;> (first | refine AL.d (AOp.call rfl rfl hF) ?_ | refine AL.d (AOp.call rfl rfl hT) ?_ | refine AL.d (AOp.call rfl rfl hC) ?_ | refine AL.d (AOp.call rfl rfl hG) ?_ | refine AL.d (AOp.call rfl rfl hV) ?_ | refine AL.d (AOp.call rfl rfl hH) ?_ | refine AL.d (AOp.call rfl rfl hR) ?_ | refine AL.d (AOp.call rfl rfl hE) ?_ | refine AL.d (AOp.call rfl rfl hE0) ?_ | refine AL.d (AOp.call rfl rfl hA) ?_ | refine AL.d (AOp.call rfl rfl hRC) ?_ | refine AL.d (AOp.call rfl rfl hRG) ?_ | refine AL.d (AOp.call rfl rfl hN1) ?_ | refine AL.d (AOp.call rfl rfl hN2) ?_ | refine AL.d (AOp.call rfl rfl hI) ?_) <;> refine AL.e ?_ <;> refine AL.nil ?_)
              | (refine AW.region_at 8 ?_ <;> refine AL.e ?_ <;> refine AL.nil ?_)
              | (refine AW.region_at 9 ?_ <;> refine AL.e ?_ <;> refine AL.nil ?_)
              | (refine AW.region_at 10 ?_ <;> (first | refine AL.d AOp.fa ?_ | refine AL.d (AOp.fr 3) ?_) <;> refine AL.d AOp.la ?_ <;> (first | refine AL.d (AOp.call rfl rfl hF) ?_ | refine AL.d (AOp.call rfl rfl hT) ?_ | refine AL.d (AOp.call rfl rfl hC) ?_ | refine AL.d (AOp.call rfl rfl hG) ?_ | refine AL.d (AOp.call rfl rfl hV) ?_ | refine AL.d (AOp.call rfl rfl hH) ?_ | refine AL.d (AOp.call rfl rfl hR) ?_ | refine AL.d (AOp.call rfl rfl hE) ?_ | refine AL.d (AOp.call rfl rfl hE0) ?_ | refine AL.d (AOp.call rfl rfl hA) ?_ | refine AL.d (AOp.call rfl rfl hRC) ?_ | refine AL.d (AOp.call rfl rfl hRG) ?_ | refine AL.d (AOp.call rfl rfl hN1) ?_ | refine AL.d (AOp.call rfl rfl hN2) ?_ | refine AL.d (AOp.call rfl rfl hI) ?_) <;> refine AL.e ?_ <;> refine AL.nil ?_)
              | (refine AW.region_at 11 ?_ <;> (first | refine AL.d AOp.fa ?_ | refine AL.d (AOp.fr 3) ?_) <;> refine AL.d AOp.la ?_ <;> (first | refine AL.d (AOp.call rfl rfl hF) ?_ | refine AL.d (AOp.call rfl rfl hT) ?_ | refine AL.d (AOp.call rfl rfl hC) ?_ | refine AL.d (AOp.call rfl rfl hG) ?_ | refine AL.d (AOp.call rfl rfl hV) ?_ | refine AL.d (AOp.call rfl rfl hH) ?_ | refine AL.d (AOp.call rfl rfl hR) ?_ | refine AL.d (AOp.call rfl rfl hE) ?_ | refine AL.d (AOp.call rfl rfl hE0) ?_ | refine AL.d (AOp.call rfl rfl hA) ?_ | refine AL.d (AOp.call rfl rfl hRC) ?_ | refine AL.d (AOp.call rfl rfl hRG) ?_ | refine AL.d (AOp.call rfl rfl hN1) ?_ | refine AL.d (AOp.call rfl rfl hN2) ?_ | refine AL.d (AOp.call rfl rfl hI) ?_) <;> refine AL.e ?_ <;> refine AL.e ?_ <;> refine AL.nil ?_)
              | (refine AW.region_at 12 ?_ <;> refine AL.e ?_ <;> refine AL.d AOp.ln ?_ <;> refine AL.e ?_ <;> refine AL.nil ?_)
              | (refine AW.region_at 13 ?_ <;> refine AL.e ?_ <;> refine AL.e ?_ <;> refine AL.nil ?_)
              | (refine AW.region_at 14 ?_ <;> refine AL.e ?_ <;> refine AL.e ?_ <;> refine AL.e ?_ <;> refine AL.e ?_ <;> (first | (refine AL.gd ?_; refine AL.e ?_) | refine AL.gs ?_ | refine AL.gu ?_ | (refine AL.gx (fun hb => ?_) (fun hb => ?_) <;> first | (refine AL.gd ?_; refine AL.e ?_) | refine AL.gs ?_)) <;> (first | (refine AL.gd ?_; refine AL.e ?_) | refine AL.gs ?_ | refine AL.gu ?_) <;> (first | (refine AL.gd ?_; (first | refine AL.d (AOp.call rfl rfl hF) ?_ | refine AL.d (AOp.call rfl rfl hT) ?_ | refine AL.d (AOp.call rfl rfl hC) ?_ | refine AL.d (AOp.call rfl rfl hG) ?_ | refine AL.d (AOp.call rfl rfl hV) ?_ | refine AL.d (AOp.call rfl rfl hH) ?_ | refine AL.d (AOp.call rfl rfl hR) ?_ | refine AL.d (AOp.call rfl rfl hE) ?_ | refine AL.d (AOp.call rfl rfl hE0) ?_ | refine AL.d (AOp.call rfl rfl hA) ?_ | refine AL.d (AOp.call rfl rfl hRC) ?_ | refine AL.d (AOp.call rfl rfl hRG) ?_ | refine AL.d (AOp.call rfl rfl hN1) ?_ | refine AL.d (AOp.call rfl rfl hN2) ?_ | refine AL.d (AOp.call rfl rfl hI) ?_)) | refine AL.gs ?_ | refine AL.gu ?_) <;> (first | (refine AL.gd ?_; refine AL.e ?_) | refine AL.gs ?_ | refine AL.gu ?_) <;> refine AL.e ?_ <;> refine AL.nil ?_)
              | (refine AW.region_at 15 ?_ <;> refine AL.e ?_ <;> refine AL.nil ?_)
              | (refine AW.region_at 16 ?_ <;> refine AL.e ?_ <;> refine AL.e ?_ <;> refine AL.e ?_ <;> (first | (refine AL.gd ?_; refine AL.e ?_) | refine AL.gs ?_ | refine AL.gu ?_ | (refine AL.gx (fun hb => ?_) (fun hb => ?_) <;> first | (refine AL.gd ?_; refine AL.e ?_) | refine AL.gs ?_)) <;> (first | (refine AL.gd ?_; refine AL.e ?_) | refine AL.gs ?_ | refine AL.gu ?_) <;> refine AL.e ?_ <;> refine AL.nil ?_)
              | (refine AW.region_at 18 ?_ <;> refine AL.e ?_ <;> refine AL.e ?_ <;> refine AL.d AOp.la ?_ <;> refine AL.e ?_ <;> (first | refine AL.d (AOp.call rfl rfl hF) ?_ | refine AL.d (AOp.call rfl rfl hT) ?_ | refine AL.d (AOp.call rfl rfl hC) ?_ | refine AL.d (AOp.call rfl rfl hG) ?_ | refine AL.d (AOp.call rfl rfl hV) ?_ | refine AL.d (AOp.call rfl rfl hH) ?_ | refine AL.d (AOp.call rfl rfl hR) ?_ | refine AL.d (AOp.call rfl rfl hE) ?_ | refine AL.d (AOp.call rfl rfl hE0) ?_ | refine AL.d (AOp.call rfl rfl hA) ?_ | refine AL.d (AOp.call rfl rfl hRC) ?_ | refine AL.d (AOp.call rfl rfl hRG) ?_ | refine AL.d (AOp.call rfl rfl hN1) ?_ | refine AL.d (AOp.call rfl rfl hN2) ?_ | refine AL.d (AOp.call rfl rfl hI) ?_) <;> (first | refine AL.d (AOp.call rfl rfl hF) ?_ | refine AL.d (AOp.call rfl rfl hT) ?_ | refine AL.d (AOp.call rfl rfl hC) ?_ | refine AL.d (AOp.call rfl rfl hG) ?_ | refine AL.d (AOp.call rfl rfl hV) ?_ | refine AL.d (AOp.call rfl rfl hH) ?_ | refine AL.d (AOp.call rfl rfl hR) ?_ | refine AL.d (AOp.call rfl rfl hE) ?_ | refine AL.d (AOp.call rfl rfl hE0) ?_ | refine AL.d (AOp.call rfl rfl hA) ?_ | refine AL.d (AOp.call rfl rfl hRC) ?_ | refine AL.d (AOp.call rfl rfl hRG) ?_ | refine AL.d (AOp.call rfl rfl hN1) ?_ | refine AL.d (AOp.call rfl rfl hN2) ?_ | refine AL.d (AOp.call rfl rfl hI) ?_) <;> refine AL.e ?_ <;> (first | (refine AL.gd ?_; (first | refine AL.d AOp.fa ?_ | refine AL.d (AOp.fr 3) ?_)) | refine AL.gs ?_ | refine AL.gu ?_ | (refine AL.gx (fun hb => ?_) (fun hb => ?_) <;> first | (refine AL.gd ?_; (first | refine AL.d AOp.fa ?_ | refine AL.d (AOp.fr 3) ?_)) | refine AL.gs ?_)) <;> (first | (refine AL.gd ?_; refine AL.d AOp.la ?_) | refine AL.gs ?_ | refine AL.gu ?_) <;> (first | (refine AL.gd ?_; (first | refine AL.d (AOp.call rfl rfl hF) ?_ | refine AL.d (AOp.call rfl rfl hT) ?_ | refine AL.d (AOp.call rfl rfl hC) ?_ | refine AL.d (AOp.call rfl rfl hG) ?_ | refine AL.d (AOp.call rfl rfl hV) ?_ | refine AL.d (AOp.call rfl rfl hH) ?_ | refine AL.d (AOp.call rfl rfl hR) ?_ | refine AL.d (AOp.call rfl rfl hE) ?_ | refine AL.d (AOp.call rfl rfl hE0) ?_ | refine AL.d (AOp.call rfl rfl hA) ?_ | refine AL.d (AOp.call rfl rfl hRC) ?_ | refine AL.d (AOp.call rfl rfl hRG) ?_ | refine AL.d (AOp.call rfl rfl hN1) ?_ | refine AL.d (AOp.call rfl rfl hN2) ?_ | refine AL.d (AOp.call rfl rfl hI) ?_)) | refine AL.gs ?_ | refine AL.gu ?_) <;> (first | (refine AL.gd ?_; refine AL.e ?_) | refine AL.gs ?_ | refine AL.gu ?_) <;> (first | (refine AL.gd ?_; refine AL.e ?_) | refine AL.gs ?_ | refine AL.gu ?_ | (refine AL.gx (fun hb => ?_) (fun hb => ?_) <;> first | (refine AL.gd ?_; refine AL.e ?_) | refine AL.gs ?_)) <;> (first | (refine AL.gd ?_; refine AL.e ?_) | refine AL.gs ?_ | refine AL.gu ?_) <;> (first | (refine AL.gd ?_; refine AL.e ?_) | refine AL.gs ?_ | refine AL.gu ?_) <;> (first | (refine AL.gd ?_; refine AL.e ?_) | refine AL.gs ?_ | refine AL.gu ?_) <;> (first | (refine AL.gd ?_; refine AL.e ?_) | refine AL.gs ?_ | refine AL.gu ?_ | (refine AL.gx (fun hb => ?_) (fun hb => ?_) <;> first | (refine AL.gd ?_; refine AL.e ?_) | refine AL.gs ?_)) <;> (first | (refine AL.gd ?_; refine AL.e ?_) | refine AL.gs ?_ | refine AL.gu ?_) <;> (first | (refine AL.gd ?_; refine AL.e ?_) | refine AL.gs ?_ | refine AL.gu ?_) <;> (first | (refine AL.gd ?_; refine AL.e ?_) | refine AL.gs ?_ | refine AL.gu ?_) <;> (first | (refine AL.gd ?_; (first | refine AL.d AOp.fa ?_ | refine AL.d (AOp.fr 3) ?_)) | refine AL.gs ?_ | refine AL.gu ?_ | (refine AL.gx (fun hb => ?_) (fun hb => ?_) <;> first | (refine AL.gd ?_; (first | refine AL.d AOp.fa ?_ | refine AL.d (AOp.fr 3) ?_)) | refine AL.gs ?_)) <;> (first | (refine AL.gd ?_; refine AL.d AOp.la ?_) | refine AL.gs ?_ | refine AL.gu ?_) <;> (first | (refine AL.gd ?_; (first | refine AL.d (AOp.call rfl rfl hF) ?_ | refine AL.d (AOp.call rfl rfl hT) ?_ | refine AL.d (AOp.call rfl rfl hC) ?_ | refine AL.d (AOp.call rfl rfl hG) ?_ | refine AL.d (AOp.call rfl rfl hV) ?_ | refine AL.d (AOp.call rfl rfl hH) ?_ | refine AL.d (AOp.call rfl rfl hR) ?_ | refine AL.d (AOp.call rfl rfl hE) ?_ | refine AL.d (AOp.call rfl rfl hE0) ?_ | refine AL.d (AOp.call rfl rfl hA) ?_ | refine AL.d (AOp.call rfl rfl hRC) ?_ | refine AL.d (AOp.call rfl rfl hRG) ?_ | refine AL.d (AOp.call rfl rfl hN1) ?_ | refine AL.d (AOp.call rfl rfl hN2) ?_ | refine AL.d (AOp.call rfl rfl hI) ?_)) | refine AL.gs ?_ | refine AL.gu ?_) <;> (first | (refine AL.gd ?_; refine AL.e ?_) | refine AL.gs ?_ | refine AL.gu ?_) <;> (first | (refine AL.gd ?_; refine AL.e ?_) | refine AL.gs ?_ | refine AL.gu ?_) <;> (first | (refine AL.gd ?_; refine AL.e ?_) | refine AL.gs ?_ | refine AL.gu ?_ | (refine AL.gx (fun hb => ?_) (fun hb => ?_) <;> first | (refine AL.gd ?_; refine AL.e ?_) | refine AL.gs ?_)) <;> (first | (refine AL.gd ?_; refine AL.e ?_) | refine AL.gs ?_ | refine AL.gu ?_) <;> (first | (refine AL.gd ?_; refine AL.d AOp.la ?_) | refine AL.gs ?_ | refine AL.gu ?_) <;> (first | (refine AL.gd ?_; refine AL.e ?_) | refine AL.gs ?_ | refine AL.gu ?_) <;> (first | (refine AL.gd ?_; (first | refine AL.d (AOp.call rfl rfl hF) ?_ | refine AL.d (AOp.call rfl rfl hT) ?_ | refine AL.d (AOp.call rfl rfl hC) ?_ | refine AL.d (AOp.call rfl rfl hG) ?_ | refine AL.d (AOp.call rfl rfl hV) ?_ | refine AL.d (AOp.call rfl rfl hH) ?_ | refine AL.d (AOp.call rfl rfl hR) ?_ | refine AL.d (AOp.call rfl rfl hE) ?_ | refine AL.d (AOp.call rfl rfl hE0) ?_ | refine AL.d (AOp.call rfl rfl hA) ?_ | refine AL.d (AOp.call rfl rfl hRC) ?_ | refine AL.d (AOp.call rfl rfl hRG) ?_ | refine AL.d (AOp.call rfl rfl hN1) ?_ | refine AL.d (AOp.call rfl rfl hN2) ?_ | refine AL.d (AOp.call rfl rfl hI) ?_)) | refine AL.gs ?_ | refine AL.gu ?_) <;> (first | (refine AL.gd ?_; (first | refine AL.d (AOp.call rfl rfl hF) ?_ | refine AL.d (AOp.call rfl rfl hT) ?_ | refine AL.d (AOp.call rfl rfl hC) ?_ | refine AL.d (AOp.call rfl rfl hG) ?_ | refine AL.d (AOp.call rfl rfl hV) ?_ | refine AL.d (AOp.call rfl rfl hH) ?_ | refine AL.d (AOp.call rfl rfl hR) ?_ | refine AL.d (AOp.call rfl rfl hE) ?_ | refine AL.d (AOp.call rfl rfl hE0) ?_ | refine AL.d (AOp.call rfl rfl hA) ?_ | refine AL.d (AOp.call rfl rfl hRC) ?_ | refine AL.d (AOp.call rfl rfl hRG) ?_ | refine AL.d (AOp.call rfl rfl hN1) ?_ | refine AL.d (AOp.call rfl rfl hN2) ?_ | refine AL.d (AOp.call rfl rfl hI) ?_)) | refine AL.gs ?_ | refine AL.gu ?_) <;> (first | (refine AL.gd ?_; refine AL.e ?_) | refine AL.gs ?_ | refine AL.gu ?_) <;> (first | (refine AL.gd ?_; refine AL.e ?_) | refine AL.gs ?_ | refine AL.gu ?_) <;> refine AL.e ?_ <;> refine AL.e ?_ <;> (first | (refine AL.gd ?_; (first | refine AL.d (AOp.call rfl rfl hF) ?_ | refine AL.d (AOp.call rfl rfl hT) ?_ | refine AL.d (AOp.call rfl rfl hC) ?_ | refine AL.d (AOp.call rfl rfl hG) ?_ | refine AL.d (AOp.call rfl rfl hV) ?_ | refine AL.d (AOp.call rfl rfl hH) ?_ | refine AL.d (AOp.call rfl rfl hR) ?_ | refine AL.d (AOp.call rfl rfl hE) ?_ | refine AL.d (AOp.call rfl rfl hE0) ?_ | refine AL.d (AOp.call rfl rfl hA) ?_ | refine AL.d (AOp.call rfl rfl hRC) ?_ | refine AL.d (AOp.call rfl rfl hRG) ?_ | refine AL.d (AOp.call rfl rfl hN1) ?_ | refine AL.d (AOp.call rfl rfl hN2) ?_ | refine AL.d (AOp.call rfl rfl hI) ?_)) | refine AL.gs ?_ | refine AL.gu ?_ | (refine AL.gx (fun hb => ?_) (fun hb => ?_) <;> first | (refine AL.gd ?_; (first | refine AL.d (AOp.call rfl rfl hF) ?_ | refine AL.d (AOp.call rfl rfl hT) ?_ | refine AL.d (AOp.call rfl rfl hC) ?_ | refine AL.d (AOp.call rfl rfl hG) ?_ | refine AL.d (AOp.call rfl rfl hV) ?_ | refine AL.d (AOp.call rfl rfl hH) ?_ | refine AL.d (AOp.call rfl rfl hR) ?_ | refine AL.d (AOp.call rfl rfl hE) ?_ | refine AL.d (AOp.call rfl rfl hE0) ?_ | refine AL.d (AOp.call rfl rfl hA) ?_ | refine AL.d (AOp.call rfl rfl hRC) ?_ | refine AL.d (AOp.call rfl rfl hRG) ?_ | refine AL.d (AOp.call rfl rfl hN1) ?_ | refine AL.d (AOp.call rfl rfl hN2) ?_ | refine AL.d (AOp.call rfl rfl hI) ?_)) | refine AL.gs ?_)) <;> refine AL.e ?_ <;> refine AL.e ?_ <;> refine AL.nil ?_)
              | refine AW.cond_true rfl ?_
              | refine AW.cond_false rfl ?_
              | refine AW.block ?_
              | refine AW.endblk ?_
              | refine AW.skip ?_
              | refine AW.exit rfl ?_
              | refine AW.label ?_
              | refine AW.j (fun hb => ?_) (fun hb => ?_))
            all_goals first
              | exact AW.retv rfl ⟨rfl, rfl⟩
              | (exfalso; simp only [decide_eq_true_eq, decide_eq_false_iff_not] at *; omega)
  · rw [show fewC c 3000 = false by simpa using hf] at hF
    refine Tri.enter 135 Tryz.func4 rfl rfl rfl rfl fun Fr w0 => ?_
    repeat' (first
      | refine AW.seq ?_
      | (refine AW.region_at 0 ?_ <;> (first | refine AL.d (AOp.box_ro rfl rfl) ?_ | refine AL.d (AOp.box_ro rfl rfl) ?_) <;> refine AL.e ?_ <;> refine AL.nil ?_)
      | (refine AW.region_at 1 ?_ <;> refine AL.d AOp.la ?_ <;> (first | refine AL.d (AOp.call rfl rfl hF) ?_ | refine AL.d (AOp.call rfl rfl hA) ?_) <;> refine AL.e ?_ <;> refine AL.nil ?_)
      | (refine AW.region_at 2 ?_ <;> (first | refine AL.d (AOp.call rfl rfl hF) ?_ | refine AL.d (AOp.call rfl rfl hA) ?_) <;> refine AL.e ?_ <;> refine AL.nil ?_)
      | refine AW.cond_true rfl ?_
      | refine AW.cond_false rfl ?_
      | refine AW.block ?_
      | refine AW.endblk ?_
      | refine AW.skip ?_
      | refine AW.exit rfl ?_
      | refine AW.label ?_
      | refine AW.j (fun hb => ?_) (fun hb => ?_))
    exact AW.retv rfl ⟨rfl, rfl⟩
end Go.Proofs.YtdedkpfbfklgbaaGreat
namespace Go.Proofs.YtdedkpfbfklgbaaGreat
open Go.RowKit Go.SX
set_option maxRecDepth 100000
set_option linter.unusedVariables false

section
variable {H : Type} {enc : TypeId × Value → H} {w : World}
theorem rdInt (N : Nat) : Rd enc Tryz.prog w N 3 iav iOk := Rd.int' (by kernel_rfl)
theorem rdStr (N : Nat) : Rd enc Tryz.prog w N 9 AV.str strOk := Rd.str' (by kernel_rfl)
theorem rdBool (N : Nat) : Rd enc Tryz.prog w N 4 bav (fun _ => True) := Rd.bool' (by kernel_rfl)
theorem rdInts (N : Nat) : Rd enc Tryz.prog w N 40 ints (lenOk 8 iOk) := Rd.slice' (by kernel_rfl) (rdInt N)
theorem rdBools (N : Nat) : Rd enc Tryz.prog w N 29 bools (lenOk 1 fun _ => True) := Rd.slice' (by kernel_rfl) (rdBool N)
theorem rdIntss (N : Nat) : Rd enc Tryz.prog w N 54 (fun l => .sl (l.map ints)) (lenOk 24 (lenOk 8 iOk)) := Rd.slice' (by kernel_rfl) (rdInts N)
theorem rdSym : ∀ N : Nat, Rd enc Tryz.prog w N 74 GSym.av GSym.Ok := Rd.of_succ fun N =>
  Rd.of_q (RdQ.struct' (by kernel_rfl) (.cons (rdStr N).q (.cons (rdInt N).q (.nil)))) fun v h => by
    obtain ⟨vs, rfl, h⟩ := h
    obtain ⟨_, v1, rfl, ⟨a, rfl, ha⟩, h1⟩ := h.un
    obtain ⟨_, v2, rfl, ⟨b, rfl, hb⟩, h2⟩ := h1.un
    obtain rfl := h2.un0
    exact ⟨⟨a, b⟩, rfl, ha, hb⟩
theorem rdSyms (N : Nat) : Rd enc Tryz.prog w N 22 (fun l => .sl (l.map GSym.av)) (lenOk 24 GSym.Ok) := Rd.slice' (by kernel_rfl) (rdSym N)
theorem rdRel : ∀ N : Nat, Rd enc Tryz.prog w N 56 GRel.av GRel.Ok := Rd.of_succ fun N =>
  Rd.of_q (RdQ.struct' (by kernel_rfl) (.cons (rdStr N).q (.cons (rdInt N).q (.cons (rdIntss N).q (.nil))))) fun v h => by
    obtain ⟨vs, rfl, h⟩ := h
    obtain ⟨_, v1, rfl, ⟨a, rfl, ha⟩, h1⟩ := h.un
    obtain ⟨_, v2, rfl, ⟨b, rfl, hb⟩, h2⟩ := h1.un
    obtain ⟨_, v3, rfl, ⟨c, rfl, hc⟩, h3⟩ := h2.un
    obtain rfl := h3.un0
    exact ⟨⟨a, b, c⟩, rfl, ha, hb, hc⟩
theorem rdStr_ : ∀ N : Nat, Rd enc Tryz.prog w N 28 GStr.av GStr.Ok := Rd.of_succ fun N =>
  Rd.of_q (RdQ.struct' (by kernel_rfl) (.cons (rdInt N).q (.cons (Rd.slice' (T := 26) (n := 48) (by kernel_rfl) (rdRel N)).q (.nil)))) fun v h => by
    obtain ⟨vs, rfl, h⟩ := h
    obtain ⟨_, v1, rfl, ⟨a, rfl, ha⟩, h1⟩ := h.un
    obtain ⟨_, v2, rfl, ⟨b, rfl, hb⟩, h2⟩ := h1.un
    obtain rfl := h2.un0
    exact ⟨⟨a, b⟩, rfl, ha, hb⟩
theorem rdLit : ∀ N : Nat, Rd enc Tryz.prog w N 91 GLit.av GLit.Ok := Rd.of_succ fun N =>
  Rd.of_q (RdQ.struct' (by kernel_rfl) (.cons (rdInt N).q (.cons (rdBool N).q (.cons (rdStr N).q (.cons (rdInts N).q (.nil)))))) fun v h => by
    obtain ⟨vs, rfl, h⟩ := h
    obtain ⟨_, v1, rfl, ⟨a, rfl, ha⟩, h1⟩ := h.un
    obtain ⟨_, v2, rfl, ⟨b, rfl, hb⟩, h2⟩ := h1.un
    obtain ⟨_, v3, rfl, ⟨c, rfl, hc⟩, h3⟩ := h2.un
    obtain ⟨_, v4, rfl, ⟨d, rfl, hd⟩, h4⟩ := h3.un
    obtain rfl := h4.un0
    exact ⟨⟨a, b, c, d⟩, rfl, ha, hc, hd⟩
theorem rdStmt : ∀ N : Nat, Rd enc Tryz.prog w N 93 GStmt.av GStmt.Ok := Rd.all fun N ih =>
  Rd.of_q (RdQ.struct' (by kernel_rfl) (.cons (rdInt N).q (.cons (rdInt N).q (.cons (rdInt N).q (.cons (rdInt N).q (.cons (rdInt N).q (.cons (rdStr N).q (.cons (rdStr N).q (.cons (rdLit N).q (.cons (rdInts N).q (.cons (Rd.slice' (T := 23) (n := 200) (by kernel_rfl) ih).q (.cons (Rd.slice' (T := 23) (n := 200) (by kernel_rfl) ih).q (.nil))))))))))))) fun v h => by
    obtain ⟨vs, rfl, h⟩ := h
    obtain ⟨_, v1, rfl, ⟨a, rfl, ha⟩, h1⟩ := h.un
    obtain ⟨_, v2, rfl, ⟨b, rfl, hb⟩, h2⟩ := h1.un
    obtain ⟨_, v3, rfl, ⟨c, rfl, hc⟩, h3⟩ := h2.un
    obtain ⟨_, v4, rfl, ⟨d, rfl, hd⟩, h4⟩ := h3.un
    obtain ⟨_, v5, rfl, ⟨e, rfl, he⟩, h5⟩ := h4.un
    obtain ⟨_, v6, rfl, ⟨f, rfl, hf⟩, h6⟩ := h5.un
    obtain ⟨_, v7, rfl, ⟨g, rfl, hg⟩, h7⟩ := h6.un
    obtain ⟨_, v8, rfl, ⟨i, rfl, hi⟩, h8⟩ := h7.un
    obtain ⟨_, v9, rfl, ⟨j, rfl, hj⟩, h9⟩ := h8.un
    obtain ⟨_, v10, rfl, ⟨k, rfl, hk⟩, h10⟩ := h9.un
    obtain ⟨_, v11, rfl, ⟨l, rfl, hl⟩, h11⟩ := h10.un
    obtain rfl := h11.un0
    exact ⟨⟨a, b, c, d, e, f, g, i, j, k, l⟩, by rw [GStmt.av_eq]; rfl, .mk ⟨ha, hb, hc, hd, he, hf, hg, hi, hj⟩ hk.1 hk.2 hl.1 hl.2⟩
theorem rdCode : ∀ N : Nat, Rd enc Tryz.prog w N 25 GCode.av GCode.Ok := Rd.of_succ fun N =>
  Rd.of_q (RdQ.struct' (by kernel_rfl) (.cons (rdInt N).q (.cons (rdInt N).q (.cons (rdSyms N).q (.cons (Rd.slice' (T := 23) (n := 200) (by kernel_rfl) (rdStmt N)).q (.nil)))))) fun v h => by
    obtain ⟨vs, rfl, h⟩ := h
    obtain ⟨_, v1, rfl, ⟨a, rfl, ha⟩, h1⟩ := h.un
    obtain ⟨_, v2, rfl, ⟨b, rfl, hb⟩, h2⟩ := h1.un
    obtain ⟨_, v3, rfl, ⟨c, rfl, hc⟩, h3⟩ := h2.un
    obtain ⟨_, v4, rfl, ⟨d, rfl, hd⟩, h4⟩ := h3.un
    obtain rfl := h4.un0
    exact ⟨⟨a, b, c, d⟩, rfl, ha, hb, hc, hd⟩
theorem rdStart : ∀ N : Nat, Rd enc Tryz.prog w N 31 (fun x : List Bool × Int => .st [bools x.1, iav x.2]) (fun x => lenOk 1 (fun _ => True) x.1 ∧ iOk x.2) := Rd.of_succ fun N =>
  Rd.of_q (RdQ.struct' (by kernel_rfl) (.cons (rdBools N).q (.cons (rdInt N).q .nil))) fun v h => by
    obtain ⟨vs, rfl, h⟩ := h
    obtain ⟨_, v1, rfl, ⟨a, rfl, ha⟩, h1⟩ := h.un
    obtain ⟨_, v2, rfl, ⟨b, rfl, hb⟩, h2⟩ := h1.un
    obtain rfl := h2.un0
    exact ⟨⟨a, b⟩, rfl, ha, hb⟩
end
end Go.Proofs.YtdedkpfbfklgbaaGreat
