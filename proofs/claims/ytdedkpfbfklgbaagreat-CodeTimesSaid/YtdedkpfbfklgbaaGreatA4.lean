/- Contracts of the functions, part 4. -/
import Derived.Test.YtdedkpfbfklgbaaGreatA3
import Derived.Test.YtdedkpfbfklgbaaGreatA3
import Derived.Test.YtdedkpfbfklgbaaGreatS2
import Derived.Test.YtdedkpfbfklgbaaGreatA1
namespace Go.Proofs.YtdedkpfbfklgbaaGreat
open Go.RowKit Go.SX
set_option maxRecDepth 100000
set_option maxHeartbeats 4000000
set_option linter.unusedVariables false
set_option linter.unusedSimpArgs false

theorem findJ_none (n : ByteArray) (l : List GSym) : decide (findJ n l 0 ≥ 0) = (arOf l n).isSome := by
  rcases findJ_spec n l 0 with ⟨e1, e2⟩ | ⟨k, a, e1, -, -, e2⟩
  · rw [e1, e2]; rfl
  · rw [e1, e2]; simp
theorem ref_Valid (c : GCode) (hc : c.Ok) (hcnt : cntL c.Body ≤ 1000000) : Tri Tryz.prog 14 [c.av] [] (D (.bool (refValid c)) []) := by
  have hcb := hc.2.2.2
  have hca := hc.2.2.1
  have hal : c.Arrays.length ≤ 4611686018427387904 := by have := hca.1; omega
  have hbl : c.Body.length ≤ 4611686018427387904 := by have := hcb.1; omega
  have hCount := ref_Count (cntL c.Body) c.Body (Nat.le_refl _) hcnt hbl hcb.2
  have hSt := ref_stmts c hc (cntL c.Body) c.Body (Nat.le_refl _) hbl hcb.2
  have hT := ref_tests c hc (cntL c.Body) c.Body (Nat.le_refl _) hbl hcb.2 [] none 0 (by simpa using hcnt)
  have hdef : refValid c = ((decide (1 ≤ c.Flags) && decide (c.Flags ≤ 1000) && decide (0 ≤ c.Regs) && decide (c.Regs ≤ 60) && decide (c.Arrays.length ≤ 60)) && arrB [] c.Arrays && (decide (cntL c.Body ≤ 20000) && decide (depL c.Body ≤ 60) && allL (refS (arOf c.Arrays) c.Flags c.Regs) c.Body) && consT (testsL (arOf c.Arrays) c.Body [])) := rfl
  rw [hdef]
  have hTl := testsL_len (arOf c.Arrays) c.Body []
  rw [List.length_nil, Nat.zero_add] at hTl
  generalize testsL (arOf c.Arrays) c.Body [] = T at *
  generalize allL (refS (arOf c.Arrays) c.Flags c.Regs) c.Body = vS at *
  generalize hV : (decide (cntL c.Body ≤ 20000) && decide (depL c.Body ≤ 60) && vS) = v2
  generalize hH : (decide (1 ≤ c.Flags) && decide (c.Flags ≤ 1000) && decide (0 ≤ c.Regs) && decide (c.Regs ≤ 60) && decide (c.Arrays.length ≤ 60)) = v0
  refine Tri.enter 120 Tryz.func14 rfl rfl rfl rfl fun Fr w0 => ?_
  repeat' (first
    | refine AW.seq ?_
    | (refine AW.region_at 0 ?_ <;> (first | refine AL.d (AOp.box_ro rfl rfl) ?_ | refine AL.d (AOp.box_ro rfl rfl) ?_) <;> refine AL.e ?_ <;> refine AL.nil ?_)
    | refine AW.cond_true rfl ?_
    | refine AW.cond_false rfl ?_
    | refine AW.block ?_
    | refine AW.endblk ?_
    | refine AW.skip ?_
    | refine AW.exit rfl ?_
    | refine AW.label ?_
    | refine AW.j (fun hb => ?_) (fun hb => ?_))
  refine AW.cut (fun af ah => ∃ v : Bool, af = [(1, .at c.av), (32, .bool v)] ∧ ah = [] ∧ v = !v0) ?_ ?_
  · repeat' (first
      | refine AW.seq ?_
      | (refine AW.region_at 1 ?_ <;> (first | refine AL.d AOp.fa ?_ | refine AL.d (AOp.fr 0) ?_) <;> refine AL.d AOp.la ?_ <;> refine AL.e ?_ <;> refine AL.e ?_ <;> (first | (refine AL.gd ?_; (first | refine AL.d AOp.fa ?_ | refine AL.d (AOp.fr 0) ?_)) | refine AL.gs ?_ | refine AL.gu ?_ | (refine AL.gx (fun hb => ?_) (fun hb => ?_) <;> first | (refine AL.gd ?_; (first | refine AL.d AOp.fa ?_ | refine AL.d (AOp.fr 0) ?_)) | refine AL.gs ?_)) <;> (first | (refine AL.gd ?_; refine AL.d AOp.la ?_) | refine AL.gs ?_ | refine AL.gu ?_) <;> (first | (refine AL.gd ?_; refine AL.e ?_) | refine AL.gs ?_ | refine AL.gu ?_) <;> refine AL.e ?_ <;> refine AL.e ?_ <;> (first | (refine AL.gd ?_; (first | refine AL.d AOp.fa ?_ | refine AL.d (AOp.fr 1) ?_)) | refine AL.gs ?_ | refine AL.gu ?_ | (refine AL.gx (fun hb => ?_) (fun hb => ?_) <;> first | (refine AL.gd ?_; (first | refine AL.d AOp.fa ?_ | refine AL.d (AOp.fr 1) ?_)) | refine AL.gs ?_)) <;> (first | (refine AL.gd ?_; refine AL.d AOp.la ?_) | refine AL.gs ?_ | refine AL.gu ?_) <;> (first | (refine AL.gd ?_; refine AL.e ?_) | refine AL.gs ?_ | refine AL.gu ?_) <;> refine AL.e ?_ <;> refine AL.e ?_ <;> (first | (refine AL.gd ?_; (first | refine AL.d AOp.fa ?_ | refine AL.d (AOp.fr 1) ?_)) | refine AL.gs ?_ | refine AL.gu ?_ | (refine AL.gx (fun hb => ?_) (fun hb => ?_) <;> first | (refine AL.gd ?_; (first | refine AL.d AOp.fa ?_ | refine AL.d (AOp.fr 1) ?_)) | refine AL.gs ?_)) <;> (first | (refine AL.gd ?_; refine AL.d AOp.la ?_) | refine AL.gs ?_ | refine AL.gu ?_) <;> (first | (refine AL.gd ?_; refine AL.e ?_) | refine AL.gs ?_ | refine AL.gu ?_) <;> refine AL.e ?_ <;> refine AL.e ?_ <;> (first | (refine AL.gd ?_; (first | refine AL.d AOp.fa ?_ | refine AL.d (AOp.fr 2) ?_)) | refine AL.gs ?_ | refine AL.gu ?_ | (refine AL.gx (fun hb => ?_) (fun hb => ?_) <;> first | (refine AL.gd ?_; (first | refine AL.d AOp.fa ?_ | refine AL.d (AOp.fr 2) ?_)) | refine AL.gs ?_)) <;> (first | (refine AL.gd ?_; refine AL.d AOp.la ?_) | refine AL.gs ?_ | refine AL.gu ?_) <;> (first | (refine AL.gd ?_; refine AL.d AOp.ln ?_) | refine AL.gs ?_ | refine AL.gu ?_) <;> (first | (refine AL.gd ?_; refine AL.e ?_) | refine AL.gs ?_ | refine AL.gu ?_) <;> refine AL.e ?_ <;> refine AL.nil ?_)
      | refine AW.cond_true rfl ?_
      | refine AW.cond_false rfl ?_
      | refine AW.block ?_
      | refine AW.endblk ?_
      | refine AW.skip ?_
      | refine AW.exit rfl ?_
      | refine AW.label ?_
      | refine AW.j (fun hb => ?_) (fun hb => ?_))
    all_goals (refine AW.meet [1, 32] ⟨_, rfl, rfl, ?_⟩; subst hH; clear hCount hSt hT; simp only [List.length_map, decide_eq_true_eq, decide_eq_false_iff_not] at *; simp_all [ofConst])
    all_goals (try (rw [Bool.eq_iff_iff]; simp; try omega))
  rintro af ah ⟨v, rfl, rfl, hv⟩
  cases v0 with
  | false =>
    subst hv
    repeat' (first
      | refine AW.seq ?_
      | (refine AW.region_at 2 ?_ <;> refine AL.e ?_ <;> refine AL.nil ?_)
      | refine AW.cond_true rfl ?_
      | refine AW.cond_false rfl ?_
      | refine AW.block ?_
      | refine AW.endblk ?_
      | refine AW.skip ?_
      | refine AW.exit rfl ?_
      | refine AW.label ?_
      | refine AW.j (fun hb => ?_) (fun hb => ?_))
    exact AW.retv rfl ⟨rfl, rfl⟩
  | true =>
    subst hv
    repeat' (first
      | refine AW.seq ?_
      | (refine AW.region_at 3 ?_ <;> refine AL.e ?_ <;> refine AL.nil ?_)
      | refine AW.cond_true rfl ?_
      | refine AW.cond_false rfl ?_
      | refine AW.block ?_
      | refine AW.endblk ?_
      | refine AW.skip ?_
      | refine AW.exit rfl ?_
      | refine AW.label ?_
      | refine AW.j (fun hb => ?_) (fun hb => ?_))
    refine AW.prune [1, 3] (AW.loop (fun m af h => ∃ i : Nat, i ≤ c.Arrays.length ∧ m = c.Arrays.length - i ∧ af = [(1, .at c.av), (3, .int .i64 i)] ∧ h = [] ∧ arrB [] c.Arrays = arrB (c.Arrays.take i) (c.Arrays.drop i)) c.Arrays.length ⟨0, Nat.zero_le _, rfl, rfl, rfl, rfl⟩ ?_)
    rintro m af h ⟨i, hi, rfl, rfl, rfl, he⟩
    refine AW.seq ?_
    by_cases hlt : i < c.Arrays.length
    · obtain ⟨x, hx⟩ := get_lt hlt
      have hx' : (c.Arrays.map GSym.av)[((i : Nat) : Int).toNat]? = some x.av := map_get hx
      have hxo := hca.2 x (List.mem_of_getElem? hx)
      have hN := ref_Name x.Name hxo.1
      have hI := ref_in 13 [x.Arity] (by simp)
      rw [show inB 13 [x.Arity] = inr 13 x.Arity by simp [inB]] at hI
      have hF := ref_find (c.Arrays.take i) x.Name (by rw [List.length_take]; omega)
      rw [List.map_take] at hF
      have htk : c.Arrays.take (i + 1) = c.Arrays.take i ++ [x] := by rw [List.take_add_one, hx]; rfl
      rw [drop_cons hx, arrB, ← htk] at he
      have hf2 := findJ_none x.Name (c.Arrays.take i)
      generalize findJ x.Name (c.Arrays.take i) 0 = j at *
      repeat' (first
        | refine AW.seq ?_
        | (refine AW.region_at 4 ?_ <;> refine AL.e ?_ <;> (first | refine AL.d AOp.fa ?_ | refine AL.d (AOp.fr 2) ?_) <;> refine AL.d AOp.la ?_ <;> refine AL.d AOp.ln ?_ <;> refine AL.e ?_ <;> refine AL.nil ?_)
        | (refine AW.da 6 ?_ <;> (first | refine AQ.p rfl AOp.fa ?_ | refine AQ.p rfl (AOp.fr 2) ?_) <;> refine AQ.p rfl AOp.la ?_ <;> refine AQ.e ?_ <;> refine AQ.p rfl (AOp.index_sl rfl rfl (by omega) hx' (by kernel_rfl) rfl) ?_ <;> (first | refine AQ.p rfl AOp.fa ?_ | refine AQ.p rfl (AOp.fr 0) ?_) <;> refine AQ.p rfl AOp.la ?_ <;> (first | refine AQ.p rfl (AOp.call rfl rfl hN) ?_ | refine AQ.p rfl (AOp.call rfl rfl hI) ?_ | refine AQ.p rfl (AOp.call rfl rfl hF) ?_) <;> refine AQ.e ?_ <;> refine AQ.e ?_ <;> (first | refine AQ.gp rfl AOp.fa ?_ | refine AQ.gp rfl (AOp.fr 2) ?_ | refine AQ.k ?_ | (refine AQ.x (fun hb => ?_) (fun hb => ?_) <;> first | refine AQ.gp rfl AOp.fa ?_ | refine AQ.gp rfl (AOp.fr 2) ?_ | refine AQ.k ?_)) <;> (first | refine AQ.gp rfl AOp.la ?_ | refine AQ.k ?_) <;> (first | refine AQ.ge ?_ | refine AQ.k ?_) <;> (first | refine AQ.gp rfl (AOp.index_sl rfl rfl (by omega) hx' (by kernel_rfl) rfl) ?_ | refine AQ.k ?_) <;> (first | refine AQ.gp rfl AOp.fa ?_ | refine AQ.gp rfl (AOp.fr 1) ?_ | refine AQ.k ?_) <;> (first | refine AQ.gp rfl AOp.la ?_ | refine AQ.k ?_) <;> (first | refine AQ.gp rfl (AOp.lit (e := 3) (sz := 1) (by kernel_rfl) rfl rfl rfl (by simp [AV.size, ofConst]) (by decide)) ?_ | refine AQ.k ?_) <;> (first | refine AQ.gp rfl (AOp.call rfl rfl hN) ?_ | refine AQ.gp rfl (AOp.call rfl rfl hI) ?_ | refine AQ.gp rfl (AOp.call rfl rfl hF) ?_ | refine AQ.k ?_) <;> (first | refine AQ.ge ?_ | refine AQ.k ?_) <;> refine AQ.e ?_ <;> refine AQ.e ?_ <;> (first | refine AQ.gp rfl AOp.fa ?_ | refine AQ.gp rfl (AOp.fr 2) ?_ | refine AQ.k ?_ | (refine AQ.x (fun hb => ?_) (fun hb => ?_) <;> first | refine AQ.gp rfl AOp.fa ?_ | refine AQ.gp rfl (AOp.fr 2) ?_ | refine AQ.k ?_)) <;> (first | refine AQ.gp rfl AOp.la ?_ | refine AQ.k ?_) <;> (first | refine AQ.ge ?_ | refine AQ.k ?_) <;> (first | refine AQ.gp rfl (AOp.cut (sz := 2) rfl rfl (by kernel_rfl) (sym_sz _) bndIs.none (bndIs.some (n := i) rfl (by omega)) (by omega) (by simp; omega)) ?_ | refine AQ.k ?_) <;> (first | refine AQ.gp rfl AOp.fa ?_ | refine AQ.gp rfl (AOp.fr 2) ?_ | refine AQ.k ?_) <;> (first | refine AQ.gp rfl AOp.la ?_ | refine AQ.k ?_) <;> (first | refine AQ.ge ?_ | refine AQ.k ?_) <;> (first | refine AQ.gp rfl (AOp.index_sl rfl rfl (by omega) hx' (by kernel_rfl) rfl) ?_ | refine AQ.k ?_) <;> (first | refine AQ.gp rfl AOp.fa ?_ | refine AQ.gp rfl (AOp.fr 0) ?_ | refine AQ.k ?_) <;> (first | refine AQ.gp rfl AOp.la ?_ | refine AQ.k ?_) <;> (first | refine AQ.gp rfl (AOp.call rfl rfl hN) ?_ | refine AQ.gp rfl (AOp.call rfl rfl hI) ?_ | refine AQ.gp rfl (AOp.call rfl rfl hF) ?_ | refine AQ.k ?_) <;> (first | refine AQ.ge ?_ | refine AQ.k ?_) <;> refine AQ.e ?_ <;> refine AQ.nil ?_)
        | (refine AW.region_at 7 ?_ <;> refine AL.e ?_ <;> refine AL.nil ?_)
        | (refine AW.region_at 5 ?_ <;> refine AL.e ?_ <;> refine AL.d AOp.ad ?_ <;> refine AL.e ?_ <;> refine AL.nil ?_)
        | refine AW.cond_true rfl ?_
        | refine AW.cond_false rfl ?_
        | refine AW.block ?_
        | refine AW.endblk ?_
        | refine AW.skip ?_
        | refine AW.exit rfl ?_
        | refine AW.label ?_
        | refine AW.j (fun hb => ?_) (fun hb => ?_))
      all_goals try (exfalso; simp only [decide_eq_true_eq, decide_eq_false_iff_not, List.length_map] at *; omega)
      all_goals clear hN hI hF hCount hSt hT
      all_goals first
        | (refine AW.retv rfl ⟨retB ?_, rfl⟩; rw [he]; simp_all; done)
        | (refine AW.again_keep (c.Arrays.length - (i + 1)) [1, 3] (by omega) ⟨i + 1, hlt, rfl, rfl, rfl, ?_⟩; rw [he]; simp_all; done)
    · rw [List.drop_eq_nil_of_le (by omega), arrB] at he
      rw [he]
      repeat' (first
        | refine AW.seq ?_
        | (refine AW.region_at 4 ?_ <;> refine AL.e ?_ <;> (first | refine AL.d AOp.fa ?_ | refine AL.d (AOp.fr 2) ?_) <;> refine AL.d AOp.la ?_ <;> refine AL.d AOp.ln ?_ <;> refine AL.e ?_ <;> refine AL.nil ?_)
        | (refine AW.region_at 8 ?_ <;> (first | refine AL.d AOp.fa ?_ | refine AL.d (AOp.fr 3) ?_) <;> refine AL.d AOp.la ?_ <;> refine AL.d (AOp.call rfl rfl hCount) ?_ <;> refine AL.e ?_ <;> refine AL.e ?_ <;> refine AL.e ?_ <;> refine AL.e ?_ <;> refine AL.e ?_ <;> refine AL.nil ?_)
        | refine AW.cond_true rfl ?_
        | refine AW.cond_false rfl ?_
        | refine AW.block ?_
        | refine AW.endblk ?_
        | refine AW.skip ?_
        | refine AW.exit rfl ?_
        | refine AW.label ?_
        | refine AW.j (fun hb => ?_) (fun hb => ?_))
      all_goals try (exfalso; simp only [decide_eq_true_eq, decide_eq_false_iff_not, List.length_map] at *; omega)
      refine AW.cut (fun af ah => ∃ v : Bool, af = [(1, .at c.av), (91, .bool v)] ∧ ah = [] ∧ v = !v2) ?_ ?_
      · repeat' (first
          | refine AW.seq ?_
          | (refine AW.region_at 9 ?_ <;> refine AL.e ?_ <;> refine AL.e ?_ <;> refine AL.e ?_ <;> (first | (refine AL.gd ?_; refine AL.e ?_) | refine AL.gs ?_ | refine AL.gu ?_ | (refine AL.gx (fun hb => ?_) (fun hb => ?_) <;> first | (refine AL.gd ?_; refine AL.e ?_) | refine AL.gs ?_)) <;> (first | (refine AL.gd ?_; refine AL.e ?_) | refine AL.gs ?_ | refine AL.gu ?_) <;> refine AL.e ?_ <;> refine AL.e ?_ <;> (first | (refine AL.gd ?_; refine AL.d AOp.la ?_) | refine AL.gs ?_ | refine AL.gu ?_ | (refine AL.gx (fun hb => ?_) (fun hb => ?_) <;> first | (refine AL.gd ?_; refine AL.d AOp.la ?_) | refine AL.gs ?_)) <;> (first | (refine AL.gd ?_; (first | refine AL.d AOp.fa ?_ | refine AL.d (AOp.fr 3) ?_)) | refine AL.gs ?_ | refine AL.gu ?_) <;> (first | (refine AL.gd ?_; refine AL.d AOp.la ?_) | refine AL.gs ?_ | refine AL.gu ?_) <;> (first | (refine AL.gd ?_; refine AL.d (AOp.call rfl rfl hSt) ?_) | refine AL.gs ?_ | refine AL.gu ?_) <;> (first | (refine AL.gd ?_; refine AL.e ?_) | refine AL.gs ?_ | refine AL.gu ?_) <;> refine AL.e ?_ <;> refine AL.nil ?_)
          | refine AW.cond_true rfl ?_
          | refine AW.cond_false rfl ?_
          | refine AW.block ?_
          | refine AW.endblk ?_
          | refine AW.skip ?_
          | refine AW.exit rfl ?_
          | refine AW.label ?_
          | refine AW.j (fun hb => ?_) (fun hb => ?_))
        all_goals (refine AW.meet [1, 91] ⟨_, rfl, rfl, ?_⟩; subst hV; clear hCount hSt hT; simp only [List.length_map, decide_eq_true_eq, decide_eq_false_iff_not] at *; simp_all [ofConst])
        all_goals (try omega)
      rintro af ah ⟨v, rfl, rfl, hv⟩
      cases v2 with
      | false =>
        subst hv
        repeat' (first
          | refine AW.seq ?_
          | (refine AW.region_at 10 ?_ <;> refine AL.e ?_ <;> refine AL.nil ?_)
          | refine AW.cond_true rfl ?_
          | refine AW.cond_false rfl ?_
          | refine AW.block ?_
          | refine AW.endblk ?_
          | refine AW.skip ?_
          | refine AW.exit rfl ?_
          | refine AW.label ?_
          | refine AW.j (fun hb => ?_) (fun hb => ?_))
        exact AW.retv rfl ⟨rfl, rfl⟩
      | true =>
        subst hv
        refine AW.own_nil 2 ?_
        repeat' (first
          | refine AW.seq ?_
          | refine AW.cond_true rfl ?_
          | refine AW.cond_false rfl ?_
          | refine AW.block ?_
          | refine AW.endblk ?_
          | refine AW.skip ?_
          | refine AW.exit rfl ?_
          | refine AW.label ?_
          | refine AW.j (fun hb => ?_) (fun hb => ?_))
        refine AW.region_at 11 ?_
        refine AL.d AOp.la ?_
        refine AL.d AOp.fa ?_
        refine AL.d AOp.la ?_
        refine AL.step rfl rfl (AOp.callV (args := [c.av, .sl (c.Body.map GStmt.av), .slt [] none 0]) rfl (fun S w a hfr => ?_) hT) ?_ (by rintro _ _ ⟨_, _, e, _⟩; cases e)
        · have h1 := aeval_rel hfr (x := .tmp 92) rfl
          have h2 := aeval_rel hfr (x := .tmp 94) rfl
          simp only [RelVs]
          exact ⟨_, _, rfl, h1.1, h1.2, _, _, rfl, h2.1, h2.2, _, _, rfl, (rel_nil (S := S) (w := w)).1, (rel_nil (S := S) (w := w)).2, rfl⟩
        rintro _ _ ⟨tb, tc, e, rfl⟩
        injection e with e
        subst e
        refine AL.e ?_
        refine AL.nil ?_
        refine AW.as_sl 6 rfl ?_
        refine AW.drop (List.nil_sublist _) ?_
        repeat' (first
          | refine AW.seq ?_
          | (refine AW.region_at 12 ?_ <;> refine AL.e ?_ <;> refine AL.nil ?_)
          | refine AW.cond_true rfl ?_
          | refine AW.cond_false rfl ?_
          | refine AW.block ?_
          | refine AW.endblk ?_
          | refine AW.skip ?_
          | refine AW.exit rfl ?_
          | refine AW.label ?_
          | refine AW.j (fun hb => ?_) (fun hb => ?_))
        refine AW.prune [6, 7] (AW.loop (fun m af h => ∃ i : Nat, i ≤ T.length ∧ m = T.length - i ∧ af = [(6, .sl (T.map GSym.av)), (7, .int .i64 i)] ∧ h = [] ∧ consT T = (T.drop i).all fun a => decide (arOf T a.Name = some a.Arity)) T.length ⟨0, Nat.zero_le _, rfl, rfl, rfl, rfl⟩ ?_)
        rintro m af h ⟨i, hi, rfl, rfl, rfl, he2⟩
        refine AW.seq ?_
        by_cases hlt : i < T.length
        · obtain ⟨x, hx⟩ := get_lt hlt
          have hx' : (T.map GSym.av)[((i : Nat) : Int).toNat]? = some x.av := map_get hx
          have hF := ref_find T x.Name (by omega)
          rw [drop_cons hx, List.all_cons] at he2
          rcases findJ_spec x.Name T 0 with ⟨e1, e2⟩ | ⟨k, a, e1, ha, -, e2⟩
          · exfalso
            unfold arOf at e2
            rw [Option.map_eq_none_iff, List.find?_eq_none] at e2
            exact e2 x (List.mem_of_getElem? hx) (by simp)
          · rw [e1, Nat.zero_add] at hF
            have ha' : (T.map GSym.av)[((k : Nat) : Int).toNat]? = some a.av := map_get ha
            rw [e2] at he2
            repeat' (first
              | refine AW.seq ?_
              | (refine AW.region_at 13 ?_ <;> refine AL.e ?_ <;> refine AL.e ?_ <;> refine AL.d AOp.ln ?_ <;> refine AL.e ?_ <;> refine AL.nil ?_)
              | (refine AW.region_at 15 ?_ <;> refine AL.e ?_ <;> refine AL.e ?_ <;> refine AL.e ?_ <;> (first | refine AL.d (AOp.index_sl rfl rfl (by omega) hx' (by kernel_rfl) rfl) ?_ | refine AL.d (AOp.index_sl rfl rfl (by omega) ha' (by kernel_rfl) rfl) ?_) <;> (first | refine AL.d AOp.fa ?_ | refine AL.d (AOp.fr 0) ?_) <;> refine AL.d AOp.la ?_ <;> refine AL.d (AOp.call rfl rfl hF) ?_ <;> refine AL.e ?_ <;> refine AL.nil ?_)
              | (refine AW.da 16 ?_ <;> refine AQ.e ?_ <;> refine AQ.e ?_ <;> (first | refine AQ.p rfl (AOp.index_sl rfl rfl (by omega) hx' (by kernel_rfl) rfl) ?_ | refine AQ.p rfl (AOp.index_sl rfl rfl (by omega) ha' (by kernel_rfl) rfl) ?_) <;> (first | refine AQ.p rfl AOp.fa ?_ | refine AQ.p rfl (AOp.fr 1) ?_) <;> refine AQ.p rfl AOp.la ?_ <;> refine AQ.e ?_ <;> refine AQ.e ?_ <;> (first | refine AQ.p rfl (AOp.index_sl rfl rfl (by omega) hx' (by kernel_rfl) rfl) ?_ | refine AQ.p rfl (AOp.index_sl rfl rfl (by omega) ha' (by kernel_rfl) rfl) ?_) <;> (first | refine AQ.p rfl AOp.fa ?_ | refine AQ.p rfl (AOp.fr 1) ?_) <;> refine AQ.p rfl AOp.la ?_ <;> refine AQ.e ?_ <;> refine AQ.nil ?_)
              | (refine AW.region_at 17 ?_ <;> refine AL.e ?_ <;> refine AL.nil ?_)
              | (refine AW.region_at 14 ?_ <;> refine AL.e ?_ <;> refine AL.d AOp.ad ?_ <;> refine AL.e ?_ <;> refine AL.nil ?_)
              | refine AW.cond_true rfl ?_
              | refine AW.cond_false rfl ?_
              | refine AW.block ?_
              | refine AW.endblk ?_
              | refine AW.skip ?_
              | refine AW.exit rfl ?_
              | refine AW.label ?_
              | refine AW.j (fun hb => ?_) (fun hb => ?_))
            all_goals try (exfalso; simp only [decide_eq_true_eq, decide_eq_false_iff_not, List.length_map] at *; omega)
            all_goals first
              | (refine AW.retv rfl ⟨retB ?_, rfl⟩; rw [he2, decide_eq_false (show ¬ some a.Arity = some x.Arity by simpa using hb)]; simp)
              | (refine AW.again_keep (T.length - (i + 1)) [6, 7] (by omega) ⟨i + 1, hlt, rfl, rfl, rfl, ?_⟩; rw [he2, decide_eq_true (show some a.Arity = some x.Arity by simpa using hb)]; simp)
        · rw [List.drop_eq_nil_of_le (by omega)] at he2
          repeat' (first
            | refine AW.seq ?_
            | (refine AW.region_at 13 ?_ <;> refine AL.e ?_ <;> refine AL.e ?_ <;> refine AL.d AOp.ln ?_ <;> refine AL.e ?_ <;> refine AL.nil ?_)
            | (refine AW.region_at 18 ?_ <;> refine AL.e ?_ <;> refine AL.nil ?_)
            | refine AW.cond_true rfl ?_
            | refine AW.cond_false rfl ?_
            | refine AW.block ?_
            | refine AW.endblk ?_
            | refine AW.skip ?_
            | refine AW.exit rfl ?_
            | refine AW.label ?_
            | refine AW.j (fun hb => ?_) (fun hb => ?_))
          all_goals try (exfalso; simp only [decide_eq_true_eq, decide_eq_false_iff_not, List.length_map] at *; omega)
          exact AW.retv rfl ⟨by rw [he2]; rfl, rfl⟩
end Go.Proofs.YtdedkpfbfklgbaaGreat
namespace Go.Proofs.YtdedkpfbfklgbaaGreat
open Go.RowKit Go.SX
set_option maxRecDepth 100000
set_option maxHeartbeats 4000000
set_option linter.unusedVariables false
set_option linter.unusedSimpArgs false

def polyAt (p : List Int) (i : Nat) : Int := (p[i]?).getD 0
def PolyOk (p : List Int) : Prop := ∀ x ∈ p, 0 ≤ x ∧ x ≤ 1099511627777
theorem polyAt_ok {p : List Int} (h : PolyOk p) (i : Nat) : 0 ≤ polyAt p i ∧ polyAt p i ≤ 1099511627777 := by
  unfold polyAt
  cases e : p[i]? with
  | none => simp
  | some x => exact h x (List.mem_of_getElem? e)
theorem code_at (p : List Int) (i : Nat) (hl : p.length ≤ 4611686018427387904) : Tri Tryz.prog 131 [ints p, .int .i64 i] [] (D (.int .i64 (polyAt p i)) []) := by
  by_cases h : i < p.length
  · obtain ⟨x, hx⟩ := get_lt h
    have hx' : (p.map iav)[((i : Nat) : Int).toNat]? = some (iav x) := map_get hx
    rw [polyAt, hx]
    refine Tri.enter 13 Tryz.func131 rfl rfl rfl rfl fun Fr w0 => ?_
    repeat' (first
      | refine AW.seq ?_
      | (refine AW.region_at 0 ?_ <;> refine AL.e ?_ <;> refine AL.nil ?_)
      | (refine AW.region_at 1 ?_ <;> refine AL.e ?_ <;> refine AL.e ?_ <;> refine AL.d AOp.ln ?_ <;> refine AL.e ?_ <;> refine AL.nil ?_)
      | (refine AW.region_at 2 ?_ <;> refine AL.e ?_ <;> refine AL.e ?_ <;> refine AL.d (AOp.index_sl rfl rfl (by omega) hx' (by kernel_rfl) rfl) ?_ <;> refine AL.d AOp.la ?_ <;> refine AL.e ?_ <;> refine AL.nil ?_)
      | (refine AW.region_at 3 ?_ <;> refine AL.e ?_ <;> refine AL.nil ?_)
      | refine AW.cond_true rfl ?_
      | refine AW.cond_false rfl ?_
      | refine AW.block ?_
      | refine AW.endblk ?_
      | refine AW.skip ?_
      | refine AW.exit rfl ?_
      | refine AW.label ?_
      | refine AW.j (fun hb => ?_) (fun hb => ?_))
    all_goals first
      | (exfalso; simp only [decide_eq_true_eq, decide_eq_false_iff_not, List.length_map] at *; omega)
      | exact AW.retv rfl ⟨rfl, rfl⟩
  · rw [polyAt, List.getElem?_eq_none (by omega)]
    refine Tri.enter 13 Tryz.func131 rfl rfl rfl rfl fun Fr w0 => ?_
    repeat' (first
      | refine AW.seq ?_
      | (refine AW.region_at 0 ?_ <;> refine AL.e ?_ <;> refine AL.nil ?_)
      | (refine AW.region_at 1 ?_ <;> refine AL.e ?_ <;> refine AL.e ?_ <;> refine AL.d AOp.ln ?_ <;> refine AL.e ?_ <;> refine AL.nil ?_)
      | (refine AW.region_at 3 ?_ <;> refine AL.e ?_ <;> refine AL.nil ?_)
      | refine AW.cond_true rfl ?_
      | refine AW.cond_false rfl ?_
      | refine AW.block ?_
      | refine AW.endblk ?_
      | refine AW.skip ?_
      | refine AW.exit rfl ?_
      | refine AW.label ?_
      | refine AW.j (fun hb => ?_) (fun hb => ?_))
    all_goals first
      | (exfalso; simp only [decide_eq_true_eq, decide_eq_false_iff_not, List.length_map] at *; omega)
      | exact AW.retv rfl ⟨rfl, rfl⟩
theorem plus1 (a b : Int) (ha : 0 ≤ a ∧ a ≤ 1099511627777) (hb : 0 ≤ b ∧ b ≤ 1099511627777) : Tri Tryz.prog 129 [.int .i64 a, .int .i64 b] [] (D (.int .i64 (a + b)) []) := by
  refine Tri.enter 8 Tryz.func129 rfl rfl rfl rfl fun Fr w0 => ?_
  repeat' (first
    | refine AW.seq ?_
    | (refine AW.region_at 0 ?_ <;> refine AL.e ?_ <;> refine AL.nil ?_)
    | (refine AW.region_at 1 ?_ <;> refine AL.e ?_ <;> refine AL.e ?_ <;> refine AL.d AOp.ad ?_ <;> refine AL.e ?_ <;> refine AL.nil ?_)
    | refine AW.cond_true rfl ?_
    | refine AW.cond_false rfl ?_
    | refine AW.block ?_
    | refine AW.endblk ?_
    | refine AW.skip ?_
    | refine AW.exit rfl ?_
    | refine AW.label ?_
    | refine AW.j (fun hb => ?_) (fun hb => ?_))
  exact AW.retv rfl ⟨rfl, rfl⟩
theorem time1 (a b : Int) : Tri Tryz.prog 100 [.int .i64 a, .int .i64 b] [] (D (.int .i64 (max a b)) []) := by
  refine Tri.enter 8 Tryz.func100 rfl rfl rfl rfl fun Fr w0 => ?_
  repeat' (first
    | refine AW.seq ?_
    | (refine AW.region_at 0 ?_ <;> refine AL.e ?_ <;> refine AL.nil ?_)
    | (refine AW.region_at 1 ?_ <;> refine AL.e ?_ <;> refine AL.e ?_ <;> refine AL.d (AOp.max2 rfl rfl) ?_ <;> refine AL.e ?_ <;> refine AL.nil ?_)
    | refine AW.cond_true rfl ?_
    | refine AW.cond_false rfl ?_
    | refine AW.block ?_
    | refine AW.endblk ?_
    | refine AW.skip ?_
    | refine AW.exit rfl ?_
    | refine AW.label ?_
    | refine AW.j (fun hb => ?_) (fun hb => ?_))
  exact AW.retv rfl ⟨rfl, rfl⟩
def joinP (g : Int → Int → Int) (p q : List Int) : List Int := (List.range (max p.length q.length)).map fun i => min (g (polyAt p i) (polyAt q i)) 1099511627777
theorem joinP_len (g : Int → Int → Int) (p q : List Int) : (joinP g p q).length = max p.length q.length := by simp [joinP]
theorem joinP_get {g : Int → Int → Int} {p q : List Int} {i : Nat} (h : i < max p.length q.length) : (joinP g p q)[i]? = some (min (g (polyAt p i) (polyAt q i)) 1099511627777) := by
  simp only [joinP, List.getElem?_map, List.getElem?_range h, Option.map_some]
theorem joinP_ok {g : Int → Int → Int} {p q : List Int} (hp : PolyOk p) (hq : PolyOk q) (hg : ∀ a b, 0 ≤ a → 0 ≤ b → 0 ≤ g a b) : PolyOk (joinP g p q) := by
  intro x hx
  simp only [joinP, List.mem_map] at hx
  obtain ⟨i, _, rfl⟩ := hx
  have := hg _ _ (polyAt_ok hp i).1 (polyAt_ok hq i).1
  omega
theorem fill_set {α : Type} {L : List α} {n i : Nat} {v z : α} (hL : L.length = n) (hv : L[i]? = some v) : (L.take i ++ List.replicate (n - i) z).set i v = L.take (i + 1) ++ List.replicate (n - (i + 1)) z := by
  have hi : i < n := by rw [← hL]; exact (List.getElem?_eq_some_iff.1 hv).1
  have hl : (L.take i).length = i := by simp; omega
  rw [List.set_append, if_neg (by omega), hl, Nat.sub_self, show n - i = (n - (i + 1)) + 1 by omega, List.replicate_succ, List.set_cons_zero, List.take_add_one, hv]
  simp
theorem code_joined (p q : List Int) (hp : PolyOk p) (hq : PolyOk q) (hlp : p.length ≤ 2000000) (hlq : q.length ≤ 2000000) (fid : FuncId) (g : Int → Int → Int) (hg : ∀ a b, 0 ≤ a ∧ a ≤ 1099511627777 → 0 ≤ b ∧ b ≤ 1099511627777 → Tri Tryz.prog fid [.int .i64 a, .int .i64 b] [] (D (.int .i64 (g a b)) [])) :
    Tri Tryz.prog 99 [ints p, ints q, .fn fid []] [] (D (ints (joinP g p q)) []) := by
  obtain ⟨n, hn⟩ : ∃ n, n = max p.length q.length := ⟨_, rfl⟩
  have hMx : (some (AV.int .i64 (max ((p.map iav).length : Int) ((q.map iav).length : Int)))) = some (AV.int .i64 (n : Nat)) := by rw [List.length_map, List.length_map, hn]; congr 2; omega
  have hjl := joinP_len g p q
  rw [← hn] at hjl
  refine Tri.enter 34 Tryz.func99 rfl rfl rfl rfl fun Fr w0 => ?_
  repeat' (first
    | refine AW.seq ?_
    | (refine AW.region_at 0 ?_ <;> refine AL.e ?_ <;> refine AL.nil ?_)
    | (refine AW.region_at 1 ?_ <;> refine AL.e ?_ <;> refine AL.d AOp.ln ?_ <;> refine AL.e ?_ <;> refine AL.d AOp.ln ?_ <;> refine AL.d (AOp.max2 rfl rfl) ?_ <;> refine AL.makeSlice (n := n) (e := 3) (c := .int .i64 0) (z := .int .i64 0) (bytes := 8) hMx hMx (by kernel_rfl) rfl (by omega) (by omega) rfl fun b => ?_ <;> refine AL.e ?_ <;> refine AL.nil ?_)
    | refine AW.cond_true rfl ?_
    | refine AW.cond_false rfl ?_
    | refine AW.block ?_
    | refine AW.endblk ?_
    | refine AW.skip ?_
    | refine AW.exit rfl ?_
    | refine AW.label ?_
    | refine AW.j (fun hb => ?_) (fun hb => ?_))
  repeat' (first
    | refine AW.seq ?_
    | (refine AW.region_at 2 ?_ <;> refine AL.e ?_ <;> refine AL.d AOp.ln ?_ <;> refine AL.e ?_ <;> refine AL.nil ?_)
    | refine AW.cond_true rfl ?_
    | refine AW.cond_false rfl ?_
    | refine AW.block ?_
    | refine AW.endblk ?_
    | refine AW.skip ?_
    | refine AW.exit rfl ?_
    | refine AW.label ?_
    | refine AW.j (fun hb => ?_) (fun hb => ?_))
  refine AW.prune [0, 1, 2, 7, 16, 17] (AW.loop (fun m af h => ∃ i : Nat, i ≤ n ∧ m = n - i ∧ af = [(0, ints p), (1, ints q), (2, .fn fid []), (7, .osl b n n), (16, .int .i64 n), (17, .int .i64 i)] ∧ h = [.row b (((joinP g p q).take i ++ List.replicate (n - i) 0).map iav)]) n ⟨0, Nat.zero_le _, rfl, rfl, by rw [List.take_zero, List.nil_append, Nat.sub_zero, List.map_replicate]; rfl⟩ ?_)
  rintro m af h ⟨i, hi, rfl, rfl, rfl⟩
  refine AW.seq ?_
  by_cases hlt : i < n
  · have h1 := code_at p i (by omega)
    have h2 := code_at q i (by omega)
    have h3 := hg _ _ (polyAt_ok hp i) (polyAt_ok hq i)
    repeat' (first
      | refine AW.seq ?_
      | (refine AW.region_at 3 ?_ <;> refine AL.e ?_ <;> refine AL.nil ?_)
      | (refine AW.region_at 4 ?_ <;> refine AL.e ?_ <;> refine AL.e ?_ <;> refine AL.nil ?_)
      | (refine AW.region_at 5 ?_ <;> refine AL.e ?_ <;> refine AL.e ?_ <;> refine AL.e ?_ <;> refine AL.e ?_ <;> refine AL.e ?_ <;> (first | refine AL.d (AOp.call rfl rfl (h1.pure _)) ?_ | refine AL.d (AOp.call rfl rfl (h2.pure _)) ?_ | refine AL.d (AOp.call rfl rfl (h3.pure _)) ?_) <;> refine AL.e ?_ <;> refine AL.e ?_ <;> (first | refine AL.d (AOp.call rfl rfl (h1.pure _)) ?_ | refine AL.d (AOp.call rfl rfl (h2.pure _)) ?_ | refine AL.d (AOp.call rfl rfl (h3.pure _)) ?_) <;> (first | refine AL.d (AOp.call rfl rfl (h1.pure _)) ?_ | refine AL.d (AOp.call rfl rfl (h2.pure _)) ?_ | refine AL.d (AOp.call rfl rfl (h3.pure _)) ?_) <;> refine AL.d (AOp.min2 rfl rfl) ?_ <;> refine AL.d (AOp.index_osl rfl rfl (by omega) (by omega) (by kernel_rfl)) ?_ <;> refine AL.store_cell 0 rfl rfl rfl (by simp; omega) rfl rfl (by kernel_rfl) ?_ <;> refine AL.nil ?_)
      | refine AW.cond_true rfl ?_
      | refine AW.cond_false rfl ?_
      | refine AW.block ?_
      | refine AW.endblk ?_
      | refine AW.skip ?_
      | refine AW.exit rfl ?_
      | refine AW.label ?_
      | refine AW.j (fun hb => ?_) (fun hb => ?_))
    all_goals try (exfalso; simp only [decide_eq_true_eq, decide_eq_false_iff_not, List.length_map] at *; omega)
    have hset := fill_set (z := (0 : Int)) hjl (joinP_get (g := g) (p := p) (q := q) (i := i) (by omega))
    repeat' (first
      | refine AW.seq ?_
      | (refine AW.region_at 6 ?_ <;> refine AL.d AOp.ad ?_ <;> refine AL.e ?_ <;> refine AL.nil ?_)
      | refine AW.cond_true rfl ?_
      | refine AW.cond_false rfl ?_
      | refine AW.block ?_
      | refine AW.endblk ?_
      | refine AW.skip ?_
      | refine AW.exit rfl ?_
      | refine AW.label ?_
      | refine AW.j (fun hb => ?_) (fun hb => ?_))
    refine AW.again_keep (n - (i + 1)) [0, 1, 2, 7, 16, 17] (by omega) ⟨i + 1, hlt, rfl, rfl, ?_⟩
    rw [← hset, List.map_set]
    rfl
  · obtain rfl : i = n := by omega
    repeat' (first
      | refine AW.seq ?_
      | (refine AW.region_at 3 ?_ <;> refine AL.e ?_ <;> refine AL.nil ?_)
      | refine AW.cond_true rfl ?_
      | refine AW.cond_false rfl ?_
      | refine AW.block ?_
      | refine AW.endblk ?_
      | refine AW.skip ?_
      | refine AW.exit rfl ?_
      | refine AW.label ?_
      | refine AW.j (fun hb => ?_) (fun hb => ?_))
    all_goals try (exfalso; simp only [decide_eq_true_eq, decide_eq_false_iff_not] at *; omega)
    refine AW.freeze_row 0 7 rfl rfl (by simp; omega) (all_map fun _ => rfl) ?_
    repeat' (first
      | refine AW.seq ?_
      | (refine AW.region_at 7 ?_ <;> refine AL.e ?_ <;> refine AL.e ?_ <;> refine AL.nil ?_)
      | refine AW.cond_true rfl ?_
      | refine AW.cond_false rfl ?_
      | refine AW.block ?_
      | refine AW.endblk ?_
      | refine AW.skip ?_
      | refine AW.exit rfl ?_
      | refine AW.label ?_
      | refine AW.j (fun hb => ?_) (fun hb => ?_))
    first | refine AW.donev rfl ⟨?_, rfl⟩ | refine AW.retv rfl ⟨?_, rfl⟩
    show AEnd.ret (.sl (((joinP g p q).take i ++ List.replicate (i - i) 0).map iav)) = _
    rw [Nat.sub_self, List.replicate_zero, List.append_nil, List.take_of_length_le (by omega)]
    rfl
def plusP (p q : List Int) : List Int := joinP (fun a b => a + b) p q
theorem code_plus (p q : List Int) (hp : PolyOk p) (hq : PolyOk q) (hlp : p.length ≤ 2000000) (hlq : q.length ≤ 2000000) : Tri Tryz.prog 97 [ints p, ints q] [] (D (ints (plusP p q)) []) := by
  have h := code_joined p q hp hq hlp hlq 129 (fun a b => a + b) plus1
  refine Tri.enter 8 Tryz.func97 rfl rfl rfl rfl fun Fr w0 => ?_
  repeat' (first
    | refine AW.seq ?_
    | (refine AW.region_at 0 ?_ <;> refine AL.e ?_ <;> refine AL.nil ?_)
    | (refine AW.region_at 1 ?_ <;> refine AL.e ?_ <;> refine AL.e ?_ <;> refine AL.d (AOp.call rfl rfl h) ?_ <;> refine AL.e ?_ <;> refine AL.nil ?_)
    | refine AW.cond_true rfl ?_
    | refine AW.cond_false rfl ?_
    | refine AW.block ?_
    | refine AW.endblk ?_
    | refine AW.skip ?_
    | refine AW.exit rfl ?_
    | refine AW.label ?_
    | refine AW.j (fun hb => ?_) (fun hb => ?_))
  exact AW.retv rfl ⟨rfl, rfl⟩
theorem slices_Grow (n : Nat) (h0 : 0 < n) (hn : n ≤ 2000000) : Tri Tryz.prog 138 [nilS, .int .i64 n] [] (fun x h => ∃ b k, n ≤ k ∧ x = .ret (.osl b 0 k) ∧ h = [.row b (List.replicate k (.int .i64 0))]) := by
  refine Tri.enter 27 Tryz.func138 rfl rfl rfl rfl fun Fr w0 => ?_
  repeat' (first
    | refine AW.seq ?_
    | (refine AW.region_at 0 ?_ <;> refine AL.e ?_ <;> refine AL.nil ?_)
    | (refine AW.region_at 1 ?_ <;> refine AL.e ?_ <;> refine AL.e ?_ <;> refine AL.nil ?_)
    | refine AW.cond_true rfl ?_
    | refine AW.cond_false rfl ?_
    | refine AW.block ?_
    | refine AW.endblk ?_
    | refine AW.skip ?_
    | refine AW.exit rfl ?_
    | refine AW.label ?_
    | refine AW.j (fun hb => ?_) (fun hb => ?_))
  all_goals try (exfalso; simp only [decide_eq_true_eq, decide_eq_false_iff_not] at *; omega)
  repeat' (first
    | refine AW.seq ?_
    | (refine AW.region_at 3 ?_ <;> refine AL.e ?_ <;> refine AL.e ?_ <;> refine AL.d (AOp.cap_nil (by kernel_rfl) rfl) ?_ <;> refine AL.e ?_ <;> (first | refine AL.d (AOp.len_nil (by kernel_rfl) rfl) ?_ | refine AL.d AOp.ln ?_) <;> refine AL.d AOp.sb ?_ <;> refine AL.d AOp.sb ?_ <;> refine AL.e ?_ <;> refine AL.nil ?_)
    | (refine AW.region_at 4 ?_ <;> refine AL.e ?_ <;> refine AL.e ?_ <;> refine AL.nil ?_)
    | refine AW.cond_true rfl ?_
    | refine AW.cond_false rfl ?_
    | refine AW.block ?_
    | refine AW.endblk ?_
    | refine AW.skip ?_
    | refine AW.exit rfl ?_
    | refine AW.label ?_
    | refine AW.j (fun hb => ?_) (fun hb => ?_))
  · have hnx : (some (AV.int .i64 ((n : Int) - (0 - 0)))) = some (AV.int .i64 (n : Nat)) := by rw [Int.sub_zero, Int.sub_zero]
    refine AW.region_at 5 ?_
    refine AL.ev rfl rfl rfl rfl ?_
    refine AL.ev rfl rfl rfl rfl ?_
    refine AL.det (AOp.cap_nil (by kernel_rfl) rfl) rfl rfl rfl ?_
    refine AL.det (AOp.cut_nil (sz := 1) (by kernel_rfl) rfl bndIs.none (bndIs.some (i := 0) rfl rfl)) rfl rfl rfl ?_
    refine AL.ev rfl rfl rfl rfl ?_
    refine AL.append_zeros (n := n) (e := 3) (c := .int .i64 0) (z := .int .i64 0) (bytes := 8) rfl hnx h0 (by kernel_rfl) (by kernel_rfl) rfl (by omega) (by omega) rfl fun b k hk => ?_
    refine AL.ev rfl rfl rfl rfl ?_
    refine AL.det (AOp.len_nil (by kernel_rfl) rfl) rfl rfl rfl ?_
    refine AL.det (AOp.cut_osl (sz := 1) (h := 0) (by kernel_rfl) rfl (bndIs.some (i := 0) rfl rfl) (Nat.zero_le _)) rfl rfl rfl ?_
    refine AL.ev rfl rfl rfl rfl ?_
    refine AL.nil ?_
    repeat' (first
      | refine AW.seq ?_
      | (refine AW.region_at 6 ?_ <;> refine AL.e ?_ <;> refine AL.e ?_ <;> refine AL.nil ?_)
      | refine AW.cond_true rfl ?_
      | refine AW.cond_false rfl ?_
      | refine AW.block ?_
      | refine AW.endblk ?_
      | refine AW.skip ?_
      | refine AW.exit rfl ?_
      | refine AW.label ?_
      | refine AW.j (fun hb => ?_) (fun hb => ?_))
    first
      | exact AW.retv rfl ⟨b, k, hk, rfl, rfl⟩
      | exact AW.donev rfl ⟨b, k, hk, rfl, rfl⟩
  · exfalso; simp only [decide_eq_false_iff_not] at hb; omega
end Go.Proofs.YtdedkpfbfklgbaaGreat
namespace Go.Proofs.YtdedkpfbfklgbaaGreat
open Go.RowKit Go.SX
set_option maxRecDepth 100000
set_option maxHeartbeats 4000000
set_option linter.unusedVariables false
set_option linter.unusedSimpArgs false

theorem flat_take {α : Type} {ls : List (List α)} {i : Nat} {x : List α} (h : ls[i]? = some x) : (ls.take (i + 1)).flatten = (ls.take i).flatten ++ x := by
  rw [List.take_add_one, h]; simp
theorem flat_le {α : Type} (ls : List (List α)) (i : Nat) : (ls.take i).flatten.length ≤ ls.flatten.length := by
  have h : ls.flatten = (ls.take i).flatten ++ (ls.drop i).flatten := by rw [← List.flatten_append, List.take_append_drop]
  rw [h, List.length_append]; omega
theorem slices_Concat (ls : List (List Int)) (hl : ls.length ≤ 4611686018427387904) (h0 : 0 < ls.flatten.length) (hn : ls.flatten.length ≤ 2000000) : Tri Tryz.prog 130 [.sl (ls.map ints)] [] (D (ints ls.flatten) []) := by
  have hG := slices_Grow ls.flatten.length h0 hn
  refine Tri.enter 36 Tryz.func130 rfl rfl rfl rfl fun Fr w0 => ?_
  repeat' (first
    | refine AW.seq ?_
    | (refine AW.region_at 0 ?_ <;> refine AL.e ?_ <;> refine AL.nil ?_)
    | (refine AW.region_at 1 ?_ <;> refine AL.e ?_ <;> refine AL.nil ?_)
    | (refine AW.region_at 2 ?_ <;> refine AL.e ?_ <;> refine AL.d AOp.ln ?_ <;> refine AL.e ?_ <;> refine AL.nil ?_)
    | refine AW.cond_true rfl ?_
    | refine AW.cond_false rfl ?_
    | refine AW.block ?_
    | refine AW.endblk ?_
    | refine AW.skip ?_
    | refine AW.exit rfl ?_
    | refine AW.label ?_
    | refine AW.j (fun hb => ?_) (fun hb => ?_))
  refine AW.prune [0, 3, 9, 10, 11] (AW.loop (fun m af h => ∃ i : Nat, i ≤ ls.length ∧ m = ls.length - i ∧ af = [(0, .sl (ls.map ints)), (3, .int .i64 ((ls.take i).flatten.length : Nat)), (9, .sl (ls.map ints)), (10, .int .i64 (ls.map ints).length), (11, .int .i64 i)] ∧ h = []) ls.length ⟨0, Nat.zero_le _, rfl, rfl, rfl⟩ ?_)
  rintro m af h ⟨i, hi, rfl, rfl, rfl⟩
  refine AW.seq ?_
  have hfl := flat_le ls i
  by_cases hlt : i < ls.length
  · obtain ⟨x, hx⟩ := get_lt hlt
    have hx' : (ls.map ints)[((i : Nat) : Int).toNat]? = some (ints x) := map_get hx
    have hf := flat_take hx
    have hfl2 := flat_le ls (i + 1)
    have hlx : ((x.map iav).length : Int) = x.length := by simp
    rw [hf, List.length_append] at hfl2
    repeat' (first
      | refine AW.seq ?_
      | (refine AW.region_at 3 ?_ <;> refine AL.e ?_ <;> refine AL.nil ?_)
      | (refine AW.region_at 4 ?_ <;> refine AL.d (AOp.index_sl rfl rfl (by omega) hx' (by kernel_rfl) rfl) ?_ <;> refine AL.d AOp.la ?_ <;> refine AL.e ?_ <;> refine AL.nil ?_)
      | (refine AW.region_at 5 ?_ <;> refine AL.e ?_ <;> refine AL.e ?_ <;> refine AL.d AOp.ln ?_ <;> refine AL.d AOp.ad ?_ <;> refine AL.e ?_ <;> refine AL.nil ?_)
      | (refine AW.region_at 6 ?_ <;> refine AL.e ?_ <;> refine AL.e ?_ <;> refine AL.nil ?_)
      | (refine AW.region_at 8 ?_ <;> refine AL.d AOp.ad ?_ <;> refine AL.e ?_ <;> refine AL.nil ?_)
      | refine AW.cond_true rfl ?_
      | refine AW.cond_false rfl ?_
      | refine AW.block ?_
      | refine AW.endblk ?_
      | refine AW.skip ?_
      | refine AW.exit rfl ?_
      | refine AW.label ?_
      | refine AW.j (fun hb => ?_) (fun hb => ?_))
    all_goals first
      | (exfalso; simp only [decide_eq_true_eq, decide_eq_false_iff_not, List.length_map] at *; omega)
      | (refine AW.again_keep (ls.length - (i + 1)) [0, 3, 9, 10, 11] (by omega) ⟨i + 1, hlt, rfl, ?_, rfl⟩; rw [hf, List.length_append]; show [_, (3, AV.int .i64 (((ls.take i).flatten.length : Int) + ((x.map iav).length : Int))), _, _, _] = _; rw [hlx]; rfl)
  · have hi2 : i = ls.length := by omega
    subst hi2
    rw [List.take_length]
    repeat' (first
      | refine AW.seq ?_
      | (refine AW.region_at 3 ?_ <;> refine AL.e ?_ <;> refine AL.nil ?_)
      | refine AW.cond_true rfl ?_
      | refine AW.cond_false rfl ?_
      | refine AW.block ?_
      | refine AW.endblk ?_
      | refine AW.skip ?_
      | refine AW.exit rfl ?_
      | refine AW.label ?_
      | refine AW.j (fun hb => ?_) (fun hb => ?_))
    all_goals try (exfalso; simp only [decide_eq_true_eq, decide_eq_false_iff_not, List.length_map] at *; omega)
    refine AW.region_at 9 ?_
    refine AL.ev rfl rfl rfl rfl ?_
    refine AL.step rfl rfl (AOp.callV (args := [nilS, .int .i64 (ls.flatten.length : Nat)]) rfl (fun S w a hfr => ?_) hG) ?_ ?_
    · have h2 := aeval_rel hfr (x := .tmp 23) rfl
      simp only [RelVs]
      exact ⟨_, _, rfl, by simp [nilS, RelC, Act.eval], by simp [nilS, Shape, Act.eval], _, _, rfl, h2.1, h2.2, rfl⟩
    · rintro _ _ ⟨b, k, hk, e, rfl⟩
      injection e with e
      subst e
      refine AL.ev rfl rfl rfl rfl ?_
      refine AL.nil ?_
      repeat' (first
        | refine AW.seq ?_
        | (refine AW.region_at 10 ?_ <;> refine AL.e ?_ <;> refine AL.d AOp.ln ?_ <;> refine AL.e ?_ <;> refine AL.nil ?_)
        | refine AW.cond_true rfl ?_
        | refine AW.cond_false rfl ?_
        | refine AW.block ?_
        | refine AW.endblk ?_
        | refine AW.skip ?_
        | refine AW.exit rfl ?_
        | refine AW.label ?_
        | refine AW.j (fun hb => ?_) (fun hb => ?_))
      refine AW.prune [6, 25, 26, 27] (AW.loop (fun m af h => ∃ i : Nat, i ≤ ls.length ∧ m = ls.length - i ∧ af = [(6, .osl b (ls.take i).flatten.length k), (25, .sl (ls.map ints)), (26, .int .i64 (ls.map ints).length), (27, .int .i64 i)] ∧ h = [.row b (((ls.take i).flatten.map iav) ++ List.replicate (k - (ls.take i).flatten.length) (.int .i64 0))]) ls.length ⟨0, Nat.zero_le _, rfl, rfl, rfl⟩ ?_)
      rintro m af h ⟨i, hi, rfl, rfl, rfl⟩
      refine AW.seq ?_
      have hfl := flat_le ls i
      by_cases hlt : i < ls.length
      · obtain ⟨x, hx⟩ := get_lt hlt
        have hx' : (ls.map ints)[((i : Nat) : Int).toNat]? = some (ints x) := map_get hx
        have hf := flat_take hx
        have hfl2 := flat_le ls (i + 1)
        rw [hf, List.length_append] at hfl2
        repeat' (first
          | refine AW.seq ?_
          | (refine AW.region_at 11 ?_ <;> refine AL.e ?_ <;> refine AL.nil ?_)
          | (refine AW.region_at 12 ?_ <;> refine AL.d (AOp.index_sl rfl rfl (by omega) hx' (by kernel_rfl) rfl) ?_ <;> refine AL.d AOp.la ?_ <;> refine AL.e ?_ <;> refine AL.nil ?_)
          | (refine AW.region_at 13 ?_ <;> refine AL.e ?_ <;> refine AL.e ?_ <;> refine AL.d (AOp.append_osl (i := 0) (e := 3) (c0 := .int .i64 0) (bytes := 8) rfl rfl (by rw [List.length_append, List.length_map, List.length_replicate]; omega) rfl rfl (by kernel_rfl) (by kernel_rfl) (all_map fun _ => rfl) (ok_map fun _ => rfl) (by rw [List.length_map]; omega)) ?_ <;> refine AL.e ?_ <;> refine AL.nil ?_)
          | (refine AW.region_at 14 ?_ <;> refine AL.d AOp.ad ?_ <;> refine AL.e ?_ <;> refine AL.nil ?_)
          | refine AW.cond_true rfl ?_
          | refine AW.cond_false rfl ?_
          | refine AW.block ?_
          | refine AW.endblk ?_
          | refine AW.skip ?_
          | refine AW.exit rfl ?_
          | refine AW.label ?_
          | refine AW.j (fun hb => ?_) (fun hb => ?_))
        all_goals try (exfalso; simp only [decide_eq_true_eq, decide_eq_false_iff_not, List.length_map] at *; omega)
        refine AW.again_keep (ls.length - (i + 1)) [6, 25, 26, 27] (by omega) ⟨i + 1, hlt, rfl, ?_, ?_⟩
        · rw [hf, List.length_append]
          show [(6, AV.osl b ((ls.take i).flatten.length + (x.map iav).length) k), _, _, _] = _
          rw [List.length_map]; rfl
        · show [Own.row b (((((ls.take i).flatten.map iav) ++ List.replicate (k - (ls.take i).flatten.length) (AV.int .i64 0)).take (ls.take i).flatten.length) ++ (x.map iav) ++ ((((ls.take i).flatten.map iav) ++ List.replicate (k - (ls.take i).flatten.length) (AV.int .i64 0)).drop ((ls.take i).flatten.length + (x.map iav).length)))] = _
          rw [hf]
          congr 2
          have e1 : ((ls.take i).flatten.map iav).length = (ls.take i).flatten.length := List.length_map _
          rw [List.take_append_of_le_length (by omega), List.take_of_length_le (by omega), List.map_append, List.append_assoc, List.append_assoc]
          congr 2
          rw [List.drop_append, List.drop_eq_nil_of_le (by rw [List.length_map]; omega), List.nil_append, List.drop_replicate]
          congr 1
          simp only [List.length_append, List.length_map]
          omega
      · have hi3 : i = ls.length := by omega
        subst hi3
        rw [List.take_length]
        repeat' (first
          | refine AW.seq ?_
          | (refine AW.region_at 11 ?_ <;> refine AL.e ?_ <;> refine AL.nil ?_)
          | refine AW.cond_true rfl ?_
          | refine AW.cond_false rfl ?_
          | refine AW.block ?_
          | refine AW.endblk ?_
          | refine AW.skip ?_
          | refine AW.exit rfl ?_
          | refine AW.label ?_
          | refine AW.j (fun hb => ?_) (fun hb => ?_))
        all_goals try (exfalso; simp only [decide_eq_true_eq, decide_eq_false_iff_not, List.length_map] at *; omega)
        refine AW.freeze_pre 0 6 rfl rfl (by rw [List.length_append, List.length_map, List.length_replicate]; omega) (fun x hx => ?_) ?_
        · rcases List.mem_append.1 hx with h | h
          · exact all_map (n := 1) (fun _ => rfl) x h
          · rw [(List.mem_replicate.1 h).2]; rfl
        repeat' (first
          | refine AW.seq ?_
          | (refine AW.region_at 15 ?_ <;> refine AL.e ?_ <;> refine AL.e ?_ <;> refine AL.nil ?_)
          | refine AW.cond_true rfl ?_
          | refine AW.cond_false rfl ?_
          | refine AW.block ?_
          | refine AW.endblk ?_
          | refine AW.skip ?_
          | refine AW.exit rfl ?_
          | refine AW.label ?_
          | refine AW.j (fun hb => ?_) (fun hb => ?_))
        first | refine AW.donev rfl ⟨?_, rfl⟩ | refine AW.retv rfl ⟨?_, rfl⟩
        show AEnd.ret (.sl ((ls.flatten.map iav ++ List.replicate (k - ls.flatten.length) (AV.int .i64 0)).take ls.flatten.length)) = _
        rw [List.take_append_of_le_length (by rw [List.length_map]; omega), List.take_of_length_le (by rw [List.length_map]; omega)]
        rfl
    · rintro _ _ ⟨b, k, hk, e, _⟩; cases e
def raisedP (p : List Int) (k : Nat) : List Int := if p = [] then [] else List.replicate k 0 ++ p
theorem code_raised (p : List Int) (k : Nat) (hk : k ≤ 12) (hl : p.length ≤ 1000000) : Tri Tryz.prog 98 [ints p, .int .i64 k] [] (D (ints (raisedP p k)) []) := by
  by_cases h : p = []
  · subst h
    refine Tri.enter 13 Tryz.func98 rfl rfl rfl rfl fun Fr w0 => ?_
    repeat' (first
      | refine AW.seq ?_
      | (refine AW.region_at 0 ?_ <;> refine AL.e ?_ <;> refine AL.nil ?_)
      | (refine AW.region_at 1 ?_ <;> refine AL.e ?_ <;> refine AL.d AOp.ln ?_ <;> refine AL.e ?_ <;> refine AL.nil ?_)
      | (refine AW.region_at 2 ?_ <;> refine AL.e ?_ <;> refine AL.nil ?_)
      | refine AW.cond_true rfl ?_
      | refine AW.cond_false rfl ?_
      | refine AW.block ?_
      | refine AW.endblk ?_
      | refine AW.skip ?_
      | refine AW.exit rfl ?_
      | refine AW.label ?_
      | refine AW.j (fun hb => ?_) (fun hb => ?_))
    all_goals first
      | exact AW.retv rfl ⟨rfl, rfl⟩
      | (exfalso; simp at *; done)
  · have hpl : 0 < p.length := List.length_pos_iff.2 h
    have hC := slices_Concat [List.replicate k 0, p] (by simp) (by simp; omega) (by simp; omega)
    have hf : ([List.replicate k (0 : Int), p] : List (List Int)).flatten = List.replicate k 0 ++ p := by simp
    rw [hf] at hC
    rw [raisedP, if_neg h]
    have hlen : ((p.map iav).length : Int) = p.length := by simp
    refine Tri.enter 13 Tryz.func98 rfl rfl rfl rfl fun Fr w0 => ?_
    repeat' (first
      | refine AW.seq ?_
      | (refine AW.region_at 0 ?_ <;> refine AL.e ?_ <;> refine AL.nil ?_)
      | (refine AW.region_at 1 ?_ <;> refine AL.e ?_ <;> refine AL.d AOp.ln ?_ <;> refine AL.e ?_ <;> refine AL.nil ?_)
      | refine AW.cond_true rfl ?_
      | refine AW.cond_false rfl ?_
      | refine AW.block ?_
      | refine AW.endblk ?_
      | refine AW.skip ?_
      | refine AW.exit rfl ?_
      | refine AW.label ?_
      | refine AW.j (fun hb => ?_) (fun hb => ?_))
    · exfalso; simp only [beq_iff_eq] at hb; omega
    refine AW.region_at 3 ?_
    refine AL.ev rfl rfl rfl rfl ?_
    refine AL.makeSlice (n := k) (e := 3) (c := .int .i64 0) (z := .int .i64 0) (bytes := 8) rfl rfl (by kernel_rfl) rfl (by omega) (by omega) rfl fun b => ?_
    refine AL.freeze_row 0 9 rfl rfl (by simp) (fun x hx => by rw [(List.mem_replicate.1 hx).2]; rfl) ?_
    refine AL.ev rfl rfl rfl rfl ?_
    refine AL.det (AOp.lit (e := 95) (sz := 1) (by kernel_rfl) rfl rfl rfl (by simp [AV.size, ints]) (by decide)) rfl rfl rfl ?_
    have hC' : Tri Tryz.prog 130 [.sl [.sl (List.replicate k (.int .i64 0)), ints p]] [] (D (ints (List.replicate k 0 ++ p)) []) := by
      have e : ints (List.replicate k 0) = .sl (List.replicate k (.int .i64 0)) := by simp [ints, iav]
      rw [← e]; exact hC
    refine AL.det (AOp.call rfl rfl hC') rfl rfl rfl ?_
    refine AL.ev rfl rfl rfl rfl ?_
    refine AL.nil ?_
    first
      | exact AW.retv rfl ⟨rfl, rfl⟩
      | exact AW.donev rfl ⟨rfl, rfl⟩
end Go.Proofs.YtdedkpfbfklgbaaGreat
namespace Go.Proofs.YtdedkpfbfklgbaaGreat
open Go.RowKit Go.SX
set_option maxRecDepth 100000
set_option maxHeartbeats 4000000
set_option linter.unusedVariables false
set_option linter.unusedSimpArgs false

mutual
def timeS : GStmt → List Int → List Int
  | ⟨k, f, g, r, n, nm, fr, lit, regs, body, els⟩, out =>
    let o := plusP out [1]
    if k = 7 then plusP o (raisedP (timeL body []) 1) else if k = 9 then plusP o (raisedP (timeL body []) n.toNat) else if k = 8 then plusP o (joinP max (timeL body []) (timeL els [])) else o
def timeL : List GStmt → List Int → List Int
  | [], out => out
  | s :: l, out => timeL l (timeS s out)
end
theorem timeS_eq (s : GStmt) (out : List Int) : timeS s out = (let o := plusP out [1]; if s.Kind = 7 then plusP o (raisedP (timeL s.Body []) 1) else if s.Kind = 9 then plusP o (raisedP (timeL s.Body []) s.N.toNat) else if s.Kind = 8 then plusP o (joinP max (timeL s.Body []) (timeL s.Else [])) else o) := by cases s; rfl
theorem plusP_ok {p q : List Int} (hp : PolyOk p) (hq : PolyOk q) : PolyOk (plusP p q) := joinP_ok hp hq fun a b h1 h2 => by omega
theorem raisedP_ok {p : List Int} {k : Nat} (hp : PolyOk p) : PolyOk (raisedP p k) := by
  unfold raisedP
  split
  · intro x h; cases h
  · intro x h
    rcases List.mem_append.1 h with h | h
    · rw [(List.mem_replicate.1 h).2]; omega
    · exact hp x h
theorem one_ok : PolyOk [1] := by intro x h; simp at h; omega
theorem nil_ok : PolyOk [] := by intro x h; cases h
theorem raisedP_len (p : List Int) (k : Nat) : (raisedP p k).length ≤ k + p.length := by
  unfold raisedP; split
  · simp
  · simp
/-- Numbers of factors that fit. -/
inductive NOk : GStmt → Prop
  | mk {s : GStmt} (h : 0 ≤ s.N ∧ s.N ≤ 12) (hb : ∀ x ∈ s.Body, NOk x) (he : ∀ x ∈ s.Else, NOk x) : NOk s
theorem NOk.n {s : GStmt} (h : NOk s) : 0 ≤ s.N ∧ s.N ≤ 12 := by cases h; assumption
theorem NOk.body {s : GStmt} (h : NOk s) : ∀ x ∈ s.Body, NOk x := by cases h; assumption
theorem NOk.els {s : GStmt} (h : NOk s) : ∀ x ∈ s.Else, NOk x := by cases h; assumption
theorem timeL_facts : ∀ (n : Nat) (l : List GStmt), cntL l ≤ n → (∀ x ∈ l, NOk x) → ∀ out, PolyOk out → PolyOk (timeL l out) ∧ (timeL l out).length ≤ max out.length (13 * cntL l) := by
  intro n
  induction n using Nat.strongRecOn with
  | _ n ih =>
    intro l hn hl
    induction l with
    | nil => intro out ho; rw [timeL]; exact ⟨ho, by omega⟩
    | cons s l ihl =>
      intro out ho
      have hs := hl s (by simp)
      have hcs := cntS_eq s
      have hcl : cntL (s :: l) = cntS s + cntL l := rfl
      have hN := hs.n
      have f1 := ih (cntL s.Body) (by omega) s.Body (Nat.le_refl _) hs.body [] nil_ok
      have f2 := ih (cntL s.Else) (by omega) s.Else (Nat.le_refl _) hs.els [] nil_ok
      have ho1 := plusP_ok ho one_ok
      have lo1 : (plusP out [1]).length = max out.length 1 := joinP_len _ _ _
      have key : PolyOk (timeS s out) ∧ (timeS s out).length ≤ max out.length (13 * cntS s) := by
        rw [timeS_eq]
        simp only
        simp only [List.length_nil] at f1 f2
        split
        · refine ⟨plusP_ok ho1 (raisedP_ok f1.1), ?_⟩
          have h1 : (plusP (plusP out [1]) (raisedP (timeL s.Body []) 1)).length = _ := joinP_len _ _ _
          have h2 := raisedP_len (timeL s.Body []) 1
          rw [h1]; omega
        · split
          · refine ⟨plusP_ok ho1 (raisedP_ok f1.1), ?_⟩
            have h1 : (plusP (plusP out [1]) (raisedP (timeL s.Body []) s.N.toNat)).length = _ := joinP_len _ _ _
            have h2 := raisedP_len (timeL s.Body []) s.N.toNat
            rw [h1]; omega
          · split
            · refine ⟨plusP_ok ho1 (joinP_ok f1.1 f2.1 fun a b h1 h2 => by omega), ?_⟩
              have h1 : (plusP (plusP out [1]) (joinP max (timeL s.Body []) (timeL s.Else []))).length = _ := joinP_len _ _ _
              rw [h1, joinP_len]; omega
            · exact ⟨ho1, by omega⟩
      rw [timeL]
      have h3 := ihl (by omega) (fun x hx => hl x (by simp [hx])) (timeS s out) key.1
      exact ⟨h3.1, by omega⟩
theorem code_time : ∀ (n : Nat) (l : List GStmt), cntL l ≤ n → cntL l ≤ 50000 → l.length ≤ 4611686018427387904 → (∀ x ∈ l, x.Ok) → (∀ x ∈ l, NOk x) → Tri Tryz.prog 42 [.sl (l.map GStmt.av)] [] (D (ints (timeL l [])) []) := by
  intro n
  induction n using Nat.strongRecOn with
  | _ n ih =>
    intro l hn hc hl hok hno
    refine Tri.enter 48 Tryz.func42 rfl rfl rfl rfl fun Fr w0 => ?_
    repeat' (first
      | refine AW.seq ?_
      | (refine AW.region_at 0 ?_ <;> refine AL.e ?_ <;> refine AL.nil ?_)
      | (refine AW.region_at 1 ?_ <;> refine AL.e ?_ <;> refine AL.nil ?_)
      | (refine AW.region_at 2 ?_ <;> refine AL.e ?_ <;> refine AL.d AOp.ln ?_ <;> refine AL.e ?_ <;> refine AL.nil ?_)
      | refine AW.cond_true rfl ?_
      | refine AW.cond_false rfl ?_
      | refine AW.block ?_
      | refine AW.endblk ?_
      | refine AW.skip ?_
      | refine AW.exit rfl ?_
      | refine AW.label ?_
      | refine AW.j (fun hb => ?_) (fun hb => ?_))
    refine AW.prune [3, 6, 7, 8] (AW.loop (fun m af h => ∃ (i : Nat) (out : List Int), i ≤ l.length ∧ m = l.length - i ∧ af = [(3, ints out), (6, .sl (l.map GStmt.av)), (7, .int .i64 (l.map GStmt.av).length), (8, .int .i64 i)] ∧ h = [] ∧ PolyOk out ∧ out.length ≤ 13 * 50000 ∧ timeL l [] = timeL (l.drop i) out) l.length ⟨0, [], Nat.zero_le _, rfl, rfl, rfl, nil_ok, by simp, rfl⟩ ?_)
    rintro m af h ⟨i, out, hi, rfl, rfl, rfl, ho, hol, he⟩
    refine AW.seq ?_
    by_cases hlt : i < l.length
    · obtain ⟨x, hx⟩ := get_lt hlt
      have hx' : (l.map GStmt.av)[((i : Nat) : Int).toNat]? = some x.st := GStmt.get hx
      have hxm := List.mem_of_getElem? hx
      have hxc := cnt_mem hxm
      have hcs := cntS_eq x
      have hxo := hok x hxm
      have hxn := hno x hxm
      obtain ⟨_, hb1, hb2, he1, he2⟩ := id hxo
      have hN := hxn.n
      have f1 := timeL_facts (cntL x.Body) x.Body (Nat.le_refl _) hxn.body [] nil_ok
      have f2 := timeL_facts (cntL x.Else) x.Else (Nat.le_refl _) hxn.els [] nil_ok
      simp only [List.length_nil] at f1 f2
      have t1 := ih (cntL x.Body) (by omega) x.Body (Nat.le_refl _) (by omega) (by omega) hb2 hxn.body
      have t2 := ih (cntL x.Else) (by omega) x.Else (Nat.le_refl _) (by omega) (by omega) he2 hxn.els
      have c1 := code_plus out [1] ho one_ok (by omega) (by simp)
      have ho1 := plusP_ok ho one_ok
      have lo1 : (plusP out [1]).length = max out.length 1 := joinP_len _ _ _
      have r1 := code_raised (timeL x.Body []) 1 (by omega) (by omega)
      have r2 := code_raised (timeL x.Body []) x.N.toNat (by omega) (by omega)
      rw [Int.toNat_of_nonneg hN.1] at r2
      have l1 := raisedP_len (timeL x.Body []) 1
      have l2 := raisedP_len (timeL x.Body []) x.N.toNat
      have j1 := code_joined (timeL x.Body []) (timeL x.Else []) f1.1 f2.1 (by omega) (by omega) 100 max (fun a b _ _ => time1 a b)
      have lj : (joinP max (timeL x.Body []) (timeL x.Else [])).length = _ := joinP_len _ _ _
      have p1 := code_plus (plusP out [1]) (raisedP (timeL x.Body []) 1) ho1 (raisedP_ok f1.1) (by omega) (by omega)
      have p2 := code_plus (plusP out [1]) (raisedP (timeL x.Body []) x.N.toNat) ho1 (raisedP_ok f1.1) (by omega) (by omega)
      have p3 := code_plus (plusP out [1]) (joinP max (timeL x.Body []) (timeL x.Else [])) ho1 (joinP_ok f1.1 f2.1 fun a b h1 h2 => by omega) (by omega) (by omega)
      have q1 : (plusP (plusP out [1]) (raisedP (timeL x.Body []) 1)).length = _ := joinP_len _ _ _
      have q2 : (plusP (plusP out [1]) (raisedP (timeL x.Body []) x.N.toNat)).length = _ := joinP_len _ _ _
      have q3 : (plusP (plusP out [1]) (joinP max (timeL x.Body []) (timeL x.Else []))).length = _ := joinP_len _ _ _
      rw [drop_cons hx, timeL, timeS_eq] at he
      simp only at he
      repeat' (first
        | refine AW.seq ?_
        | (refine AW.region_at 0 ?_ <;> refine AL.e ?_ <;> refine AL.nil ?_)
        | (refine AW.region_at 1 ?_ <;> refine AL.e ?_ <;> refine AL.nil ?_)
        | (refine AW.region_at 2 ?_ <;> refine AL.e ?_ <;> refine AL.d AOp.ln ?_ <;> refine AL.e ?_ <;> refine AL.nil ?_)
        | (refine AW.region_at 3 ?_ <;> refine AL.e ?_ <;> refine AL.nil ?_)
        | (refine AW.region_at 4 ?_ <;> refine AL.d (AOp.index_sl rfl rfl (by omega) hx' (by kernel_rfl) rfl) ?_ <;> refine AL.d AOp.la ?_ <;> refine AL.alloc_store (by kernel_rfl) rfl rfl rfl rfl ?_ <;> refine AL.nil ?_)
        | (refine AW.region_at 5 ?_ <;> refine AL.e ?_ <;> refine AL.d (AOp.lit (e := 3) (sz := 1) (by kernel_rfl) rfl rfl rfl (by simp [AV.size, ofConst]) (by decide)) ?_ <;> (first | refine AL.d (AOp.call rfl rfl c1) ?_ | refine AL.d (AOp.call rfl rfl t1) ?_ | refine AL.d (AOp.call rfl rfl t2) ?_ | refine AL.d (AOp.call rfl rfl r1) ?_ | refine AL.d (AOp.call rfl rfl r2) ?_ | refine AL.d (AOp.call rfl rfl j1) ?_ | refine AL.d (AOp.call rfl rfl p1) ?_ | refine AL.d (AOp.call rfl rfl p2) ?_ | refine AL.d (AOp.call rfl rfl p3) ?_) <;> refine AL.e ?_ <;> refine AL.nil ?_)
        | (refine AW.region_at 6 ?_ <;> (first | refine AL.d AOp.fa ?_ | refine AL.d (AOp.fr 0) ?_) <;> refine AL.d AOp.la ?_ <;> refine AL.nil ?_)
        | (refine AW.region_at 7 ?_ <;> refine AL.e ?_ <;> refine AL.e ?_ <;> refine AL.nil ?_)
        | (refine AW.region_at 8 ?_ <;> refine AL.e ?_ <;> (first | refine AL.d AOp.fa ?_ | refine AL.d (AOp.fr 12) ?_) <;> refine AL.d AOp.la ?_ <;> (first | refine AL.d (AOp.call rfl rfl c1) ?_ | refine AL.d (AOp.call rfl rfl t1) ?_ | refine AL.d (AOp.call rfl rfl t2) ?_ | refine AL.d (AOp.call rfl rfl r1) ?_ | refine AL.d (AOp.call rfl rfl r2) ?_ | refine AL.d (AOp.call rfl rfl j1) ?_ | refine AL.d (AOp.call rfl rfl p1) ?_ | refine AL.d (AOp.call rfl rfl p2) ?_ | refine AL.d (AOp.call rfl rfl p3) ?_) <;> (first | refine AL.d (AOp.call rfl rfl c1) ?_ | refine AL.d (AOp.call rfl rfl t1) ?_ | refine AL.d (AOp.call rfl rfl t2) ?_ | refine AL.d (AOp.call rfl rfl r1) ?_ | refine AL.d (AOp.call rfl rfl r2) ?_ | refine AL.d (AOp.call rfl rfl j1) ?_ | refine AL.d (AOp.call rfl rfl p1) ?_ | refine AL.d (AOp.call rfl rfl p2) ?_ | refine AL.d (AOp.call rfl rfl p3) ?_) <;> (first | refine AL.d (AOp.call rfl rfl c1) ?_ | refine AL.d (AOp.call rfl rfl t1) ?_ | refine AL.d (AOp.call rfl rfl t2) ?_ | refine AL.d (AOp.call rfl rfl r1) ?_ | refine AL.d (AOp.call rfl rfl r2) ?_ | refine AL.d (AOp.call rfl rfl j1) ?_ | refine AL.d (AOp.call rfl rfl p1) ?_ | refine AL.d (AOp.call rfl rfl p2) ?_ | refine AL.d (AOp.call rfl rfl p3) ?_) <;> refine AL.e ?_ <;> refine AL.nil ?_)
        | (refine AW.region_at 9 ?_ <;> refine AL.e ?_ <;> refine AL.e ?_ <;> refine AL.nil ?_)
        | (refine AW.da 10 ?_ <;> refine AQ.e ?_ <;> (first | refine AQ.p rfl AOp.fa ?_ | refine AQ.p rfl (AOp.fr 12) ?_) <;> refine AQ.p rfl AOp.la ?_ <;> (first | refine AQ.p rfl (AOp.call rfl rfl c1) ?_ | refine AQ.p rfl (AOp.call rfl rfl t1) ?_ | refine AQ.p rfl (AOp.call rfl rfl t2) ?_ | refine AQ.p rfl (AOp.call rfl rfl r1) ?_ | refine AQ.p rfl (AOp.call rfl rfl r2) ?_ | refine AQ.p rfl (AOp.call rfl rfl j1) ?_ | refine AQ.p rfl (AOp.call rfl rfl p1) ?_ | refine AQ.p rfl (AOp.call rfl rfl p2) ?_ | refine AQ.p rfl (AOp.call rfl rfl p3) ?_) <;> (first | refine AQ.p rfl AOp.fa ?_ | refine AQ.p rfl (AOp.fr 4) ?_) <;> refine AQ.p rfl AOp.la ?_ <;> (first | refine AQ.p rfl (AOp.call rfl rfl c1) ?_ | refine AQ.p rfl (AOp.call rfl rfl t1) ?_ | refine AQ.p rfl (AOp.call rfl rfl t2) ?_ | refine AQ.p rfl (AOp.call rfl rfl r1) ?_ | refine AQ.p rfl (AOp.call rfl rfl r2) ?_ | refine AQ.p rfl (AOp.call rfl rfl j1) ?_ | refine AQ.p rfl (AOp.call rfl rfl p1) ?_ | refine AQ.p rfl (AOp.call rfl rfl p2) ?_ | refine AQ.p rfl (AOp.call rfl rfl p3) ?_) <;> (first | refine AQ.p rfl (AOp.call rfl rfl c1) ?_ | refine AQ.p rfl (AOp.call rfl rfl t1) ?_ | refine AQ.p rfl (AOp.call rfl rfl t2) ?_ | refine AQ.p rfl (AOp.call rfl rfl r1) ?_ | refine AQ.p rfl (AOp.call rfl rfl r2) ?_ | refine AQ.p rfl (AOp.call rfl rfl j1) ?_ | refine AQ.p rfl (AOp.call rfl rfl p1) ?_ | refine AQ.p rfl (AOp.call rfl rfl p2) ?_ | refine AQ.p rfl (AOp.call rfl rfl p3) ?_) <;> refine AQ.e ?_ <;> refine AQ.nil ?_)
        | (refine AW.region_at 11 ?_ <;> refine AL.e ?_ <;> refine AL.e ?_ <;> refine AL.nil ?_)
        | (refine AW.da 12 ?_ <;> refine AQ.e ?_ <;> (first | refine AQ.p rfl AOp.fa ?_ | refine AQ.p rfl (AOp.fr 12) ?_) <;> refine AQ.p rfl AOp.la ?_ <;> (first | refine AQ.p rfl (AOp.call rfl rfl c1) ?_ | refine AQ.p rfl (AOp.call rfl rfl t1) ?_ | refine AQ.p rfl (AOp.call rfl rfl t2) ?_ | refine AQ.p rfl (AOp.call rfl rfl r1) ?_ | refine AQ.p rfl (AOp.call rfl rfl r2) ?_ | refine AQ.p rfl (AOp.call rfl rfl j1) ?_ | refine AQ.p rfl (AOp.call rfl rfl p1) ?_ | refine AQ.p rfl (AOp.call rfl rfl p2) ?_ | refine AQ.p rfl (AOp.call rfl rfl p3) ?_) <;> (first | refine AQ.p rfl AOp.fa ?_ | refine AQ.p rfl (AOp.fr 13) ?_) <;> refine AQ.p rfl AOp.la ?_ <;> (first | refine AQ.p rfl (AOp.call rfl rfl c1) ?_ | refine AQ.p rfl (AOp.call rfl rfl t1) ?_ | refine AQ.p rfl (AOp.call rfl rfl t2) ?_ | refine AQ.p rfl (AOp.call rfl rfl r1) ?_ | refine AQ.p rfl (AOp.call rfl rfl r2) ?_ | refine AQ.p rfl (AOp.call rfl rfl j1) ?_ | refine AQ.p rfl (AOp.call rfl rfl p1) ?_ | refine AQ.p rfl (AOp.call rfl rfl p2) ?_ | refine AQ.p rfl (AOp.call rfl rfl p3) ?_) <;> (first | refine AQ.p rfl (AOp.call rfl rfl c1) ?_ | refine AQ.p rfl (AOp.call rfl rfl t1) ?_ | refine AQ.p rfl (AOp.call rfl rfl t2) ?_ | refine AQ.p rfl (AOp.call rfl rfl r1) ?_ | refine AQ.p rfl (AOp.call rfl rfl r2) ?_ | refine AQ.p rfl (AOp.call rfl rfl j1) ?_ | refine AQ.p rfl (AOp.call rfl rfl p1) ?_ | refine AQ.p rfl (AOp.call rfl rfl p2) ?_ | refine AQ.p rfl (AOp.call rfl rfl p3) ?_) <;> (first | refine AQ.p rfl (AOp.call rfl rfl c1) ?_ | refine AQ.p rfl (AOp.call rfl rfl t1) ?_ | refine AQ.p rfl (AOp.call rfl rfl t2) ?_ | refine AQ.p rfl (AOp.call rfl rfl r1) ?_ | refine AQ.p rfl (AOp.call rfl rfl r2) ?_ | refine AQ.p rfl (AOp.call rfl rfl j1) ?_ | refine AQ.p rfl (AOp.call rfl rfl p1) ?_ | refine AQ.p rfl (AOp.call rfl rfl p2) ?_ | refine AQ.p rfl (AOp.call rfl rfl p3) ?_) <;> refine AQ.e ?_ <;> refine AQ.nil ?_)
        | (refine AW.region_at 13 ?_ <;> refine AL.d AOp.ad ?_ <;> refine AL.e ?_ <;> refine AL.nil ?_)
        | (refine AW.region_at 14 ?_ <;> refine AL.e ?_ <;> refine AL.e ?_ <;> refine AL.nil ?_)
        | refine AW.cond_true rfl ?_
        | refine AW.cond_false rfl ?_
        | refine AW.block ?_
        | refine AW.endblk ?_
        | refine AW.skip ?_
        | refine AW.exit rfl ?_
        | refine AW.label ?_
        | refine AW.j (fun hb => ?_) (fun hb => ?_))
      all_goals try (exfalso; simp only [decide_eq_true_eq, decide_eq_false_iff_not, List.length_map, beq_iff_eq, beq_eq_false_iff_ne, ne_eq] at *; omega)
      all_goals simp only [beq_iff_eq, beq_eq_false_iff_ne, ne_eq] at *
      all_goals first
        | exact AW.again_keep (l.length - (i + 1)) [3, 6, 7, 8] (by omega) ⟨i + 1, plusP (plusP out [1]) (raisedP (timeL x.Body []) 1), hlt, rfl, rfl, rfl, plusP_ok ho1 (raisedP_ok f1.1), by omega, by rw [he, if_pos (by assumption)]⟩
        | exact AW.again_keep (l.length - (i + 1)) [3, 6, 7, 8] (by omega) ⟨i + 1, plusP (plusP out [1]) (raisedP (timeL x.Body []) x.N.toNat), hlt, rfl, rfl, rfl, plusP_ok ho1 (raisedP_ok f1.1), by omega, by rw [he, if_neg (by assumption), if_pos (by assumption)]⟩
        | exact AW.again_keep (l.length - (i + 1)) [3, 6, 7, 8] (by omega) ⟨i + 1, plusP (plusP out [1]) (joinP max (timeL x.Body []) (timeL x.Else [])), hlt, rfl, rfl, rfl, plusP_ok ho1 (joinP_ok f1.1 f2.1 fun a b h1 h2 => by omega), by omega, by rw [he, if_neg (by assumption), if_neg (by assumption), if_pos (by assumption)]⟩
        | exact AW.again_keep (l.length - (i + 1)) [3, 6, 7, 8] (by omega) ⟨i + 1, plusP out [1], hlt, rfl, rfl, rfl, ho1, by omega, by rw [he, if_neg (by assumption), if_neg (by assumption), if_neg (by assumption)]⟩
    · rw [List.drop_eq_nil_of_le (by omega), timeL] at he
      repeat' (first
        | refine AW.seq ?_
        | (refine AW.region_at 3 ?_ <;> refine AL.e ?_ <;> refine AL.nil ?_)
        | (refine AW.region_at 14 ?_ <;> refine AL.e ?_ <;> refine AL.e ?_ <;> refine AL.nil ?_)
        | refine AW.cond_true rfl ?_
        | refine AW.cond_false rfl ?_
        | refine AW.block ?_
        | refine AW.endblk ?_
        | refine AW.skip ?_
        | refine AW.exit rfl ?_
        | refine AW.label ?_
        | refine AW.j (fun hb => ?_) (fun hb => ?_))
      all_goals first
        | (exfalso; simp only [decide_eq_true_eq, decide_eq_false_iff_not, List.length_map] at *; omega)
        | exact AW.retv rfl ⟨by rw [he], rfl⟩
        | exact AW.donev rfl ⟨by rw [he], rfl⟩
end Go.Proofs.YtdedkpfbfklgbaaGreat
namespace Go.Proofs.YtdedkpfbfklgbaaGreat
open Go.RowKit Go.SX
set_option maxRecDepth 100000
set_option maxHeartbeats 4000000
set_option linter.unusedVariables false
set_option linter.unusedSimpArgs false

theorem ref_Has (k : Int) : ∀ (n : Nat) (l : List GStmt) (hn : cntL l ≤ n) (hl : l.length ≤ 4611686018427387904) (ho : ∀ x ∈ l, x.Ok),
    Tri Tryz.prog 15 [.sl (l.map GStmt.av), .int .i64 k] [] (D (.bool (hasL (fun s => decide (s.Kind = k)) l)) []) := by
  intro n
  induction n using Nat.strongRecOn with
  | _ n ih =>
    intro l hn hl ho
    refine Tri.enter 37 Tryz.func15 rfl rfl rfl rfl fun Fr w0 => ?_
    repeat' (first
      | refine AW.seq ?_
      | (refine AW.region_at 0 ?_ <;> refine AL.e ?_ <;> refine AL.nil ?_)
      | (refine AW.region_at 1 ?_ <;> refine AL.e ?_ <;> refine AL.nil ?_)
      | refine AW.cond_true rfl ?_
      | refine AW.cond_false rfl ?_
      | refine AW.block ?_
      | refine AW.endblk ?_
      | refine AW.skip ?_
      | refine AW.exit rfl ?_
      | refine AW.label ?_
      | refine AW.j (fun hb => ?_) (fun hb => ?_))
    refine AW.prune [0, 1, 5] (AW.loop (fun m af h => ∃ i : Nat, i ≤ l.length ∧ m = l.length - i ∧ af = [(0, .sl (l.map GStmt.av)), (1, .int .i64 k), (5, .int .i64 i)] ∧ h = [] ∧ hasL (fun s => decide (s.Kind = k)) l = hasL (fun s => decide (s.Kind = k)) (l.drop i)) l.length ⟨0, Nat.zero_le _, rfl, rfl, rfl, rfl⟩ ?_)
    rintro m af h ⟨i, hi, rfl, rfl, rfl, he⟩
    refine AW.seq ?_
    by_cases hlt : i < l.length
    · obtain ⟨x, hx⟩ := get_lt hlt
      have hx' : (l.map GStmt.av)[((i : Nat) : Int).toNat]? = some x.st := GStmt.get hx
      have hxm := List.mem_of_getElem? hx
      have hxo := ho x hxm
      have hcx := cnt_mem hxm
      have hbo := okB hxo
      have hB := ih (cntL x.Body) (by have := cntS_eq x; omega) x.Body (Nat.le_refl _) hbo.1 hbo.2.1
      have hE := ih (cntL x.Else) (by have := cntS_eq x; omega) x.Else (Nat.le_refl _) hbo.2.2.1 hbo.2.2.2
      rw [drop_cons hx, hasL, hasS_eq] at he
      repeat' (first
        | refine AW.seq ?_
        | (refine AW.region_at 2 ?_ <;> refine AL.e ?_ <;> refine AL.e ?_ <;> refine AL.d AOp.ln ?_ <;> refine AL.e ?_ <;> refine AL.nil ?_)
        | (refine AW.region_at 4 ?_ <;> refine AL.e ?_ <;> refine AL.e ?_ <;> refine AL.d (AOp.index_sl rfl rfl (by omega) hx' (by kernel_rfl) rfl) ?_ <;> (first | refine AL.d AOp.fa ?_ | refine AL.d (AOp.fr 0) ?_) <;> refine AL.d AOp.la ?_ <;> refine AL.e ?_ <;> refine AL.e ?_ <;> refine AL.e ?_ <;> (first | (refine AL.gd ?_; refine AL.e ?_) | refine AL.gs ?_ | refine AL.gu ?_ | (refine AL.gx (fun hb => ?_) (fun hb => ?_) <;> first | (refine AL.gd ?_; refine AL.e ?_) | refine AL.gs ?_)) <;> (first | (refine AL.gd ?_; refine AL.e ?_) | refine AL.gs ?_ | refine AL.gu ?_) <;> (first | (refine AL.gd ?_; refine AL.d (AOp.index_sl rfl rfl (by omega) hx' (by kernel_rfl) rfl) ?_) | refine AL.gs ?_ | refine AL.gu ?_) <;> (first | (refine AL.gd ?_; (first | refine AL.d AOp.fa ?_ | refine AL.d (AOp.fr 12) ?_)) | refine AL.gs ?_ | refine AL.gu ?_) <;> (first | (refine AL.gd ?_; refine AL.d AOp.la ?_) | refine AL.gs ?_ | refine AL.gu ?_) <;> (first | (refine AL.gd ?_; refine AL.e ?_) | refine AL.gs ?_ | refine AL.gu ?_) <;> (first | (refine AL.gd ?_; (first | refine AL.d (AOp.call rfl rfl hB) ?_ | refine AL.d (AOp.call rfl rfl hE) ?_)) | refine AL.gs ?_ | refine AL.gu ?_) <;> refine AL.e ?_ <;> refine AL.e ?_ <;> (first | (refine AL.gd ?_; refine AL.e ?_) | refine AL.gs ?_ | refine AL.gu ?_ | (refine AL.gx (fun hb => ?_) (fun hb => ?_) <;> first | (refine AL.gd ?_; refine AL.e ?_) | refine AL.gs ?_)) <;> (first | (refine AL.gd ?_; refine AL.e ?_) | refine AL.gs ?_ | refine AL.gu ?_) <;> (first | (refine AL.gd ?_; refine AL.d (AOp.index_sl rfl rfl (by omega) hx' (by kernel_rfl) rfl) ?_) | refine AL.gs ?_ | refine AL.gu ?_) <;> (first | (refine AL.gd ?_; (first | refine AL.d AOp.fa ?_ | refine AL.d (AOp.fr 13) ?_)) | refine AL.gs ?_ | refine AL.gu ?_) <;> (first | (refine AL.gd ?_; refine AL.d AOp.la ?_) | refine AL.gs ?_ | refine AL.gu ?_) <;> (first | (refine AL.gd ?_; refine AL.e ?_) | refine AL.gs ?_ | refine AL.gu ?_) <;> (first | (refine AL.gd ?_; (first | refine AL.d (AOp.call rfl rfl hB) ?_ | refine AL.d (AOp.call rfl rfl hE) ?_)) | refine AL.gs ?_ | refine AL.gu ?_) <;> refine AL.e ?_ <;> refine AL.nil ?_)
        | (refine AW.region_at 5 ?_ <;> refine AL.e ?_ <;> refine AL.nil ?_)
        | (refine AW.region_at 3 ?_ <;> refine AL.e ?_ <;> refine AL.d AOp.ad ?_ <;> refine AL.e ?_ <;> refine AL.nil ?_)
        | refine AW.cond_true rfl ?_
        | refine AW.cond_false rfl ?_
        | refine AW.block ?_
        | refine AW.endblk ?_
        | refine AW.skip ?_
        | refine AW.exit rfl ?_
        | refine AW.label ?_
        | refine AW.j (fun hb => ?_) (fun hb => ?_))
      all_goals try (exfalso; simp only [decide_eq_true_eq, decide_eq_false_iff_not, List.length_map] at *; omega)
      all_goals clear hB hE ih
      all_goals simp only [beq_iff_eq, beq_eq_false_iff_ne, ne_eq] at *
      all_goals first
        | (refine AW.retv rfl ⟨retB ?_, rfl⟩; rw [he]; simp_all; done)
        | (refine AW.again_keep (l.length - (i + 1)) [0, 1, 5] (by omega) ⟨i + 1, hlt, rfl, rfl, rfl, ?_⟩; rw [he]; simp_all; done)
    · rw [List.drop_eq_nil_of_le (by omega)] at he
      repeat' (first
        | refine AW.seq ?_
        | (refine AW.region_at 2 ?_ <;> refine AL.e ?_ <;> refine AL.e ?_ <;> refine AL.d AOp.ln ?_ <;> refine AL.e ?_ <;> refine AL.nil ?_)
        | (refine AW.region_at 6 ?_ <;> refine AL.e ?_ <;> refine AL.nil ?_)
        | refine AW.cond_true rfl ?_
        | refine AW.cond_false rfl ?_
        | refine AW.block ?_
        | refine AW.endblk ?_
        | refine AW.skip ?_
        | refine AW.exit rfl ?_
        | refine AW.label ?_
        | refine AW.j (fun hb => ?_) (fun hb => ?_))
      all_goals try (exfalso; simp only [decide_eq_true_eq, decide_eq_false_iff_not, List.length_map] at *; omega)
      exact AW.retv rfl ⟨by rw [he]; rfl, rfl⟩
def addF (g : Bool) (a b : Int) : Int := if g then max a b else a + b
def Bd (p : List Int) : Prop := ∀ x ∈ p, 0 ≤ x ∧ x ≤ 1000000
theorem polyAt_bd {p : List Int} (h : Bd p) (i : Nat) : 0 ≤ polyAt p i ∧ polyAt p i ≤ 1000000 := by
  unfold polyAt
  cases hx : p[i]? with
  | none => exact ⟨by simp, by simp⟩
  | some x => exact h x (List.mem_of_getElem? hx)
theorem ref_add (p q : List Int) (g : Bool) (hp : Bd p) (hq : Bd q) (hlp : p.length ≤ 2000000) (hlq : q.length ≤ 2000000) : Tri Tryz.prog 56 [ints p, ints q, .bool g] [] (D (ints (joinP (addF g) p q)) []) := by
  obtain ⟨n, hn⟩ : ∃ n, n = max p.length q.length := ⟨_, rfl⟩
  have hMx : (some (AV.int .i64 (max ((p.map iav).length : Int) ((q.map iav).length : Int)))) = some (AV.int .i64 (n : Nat)) := by rw [List.length_map, List.length_map, hn]; congr 2; omega
  have hjl := joinP_len (addF g) p q
  rw [← hn] at hjl
  refine Tri.enter 53 Tryz.func56 rfl rfl rfl rfl fun Fr w0 => ?_
  repeat' (first
    | refine AW.seq ?_
    | (refine AW.region_at 0 ?_ <;> refine AL.e ?_ <;> refine AL.nil ?_)
    | (refine AW.region_at 1 ?_ <;> refine AL.e ?_ <;> refine AL.d AOp.ln ?_ <;> refine AL.e ?_ <;> refine AL.d AOp.ln ?_ <;> (first | refine AL.d (AOp.max2 rfl rfl) ?_ | refine AL.d (AOp.max2 rfl rfl) ?_) <;> refine AL.makeSlice (n := n) (e := 3) (c := .int .i64 0) (z := .int .i64 0) (bytes := 8) hMx hMx (by kernel_rfl) rfl (by omega) (by omega) rfl fun b => ?_ <;> refine AL.e ?_ <;> refine AL.nil ?_)
    | refine AW.cond_true rfl ?_
    | refine AW.cond_false rfl ?_
    | refine AW.block ?_
    | refine AW.endblk ?_
    | refine AW.skip ?_
    | refine AW.exit rfl ?_
    | refine AW.label ?_
    | refine AW.j (fun hb => ?_) (fun hb => ?_))
  repeat' (first
    | refine AW.seq ?_
    | (refine AW.region_at 2 ?_ <;> refine AL.e ?_ <;> refine AL.nil ?_)
    | refine AW.cond_true rfl ?_
    | refine AW.cond_false rfl ?_
    | refine AW.block ?_
    | refine AW.endblk ?_
    | refine AW.skip ?_
    | refine AW.exit rfl ?_
    | refine AW.label ?_
    | refine AW.j (fun hb => ?_) (fun hb => ?_))
  refine AW.prune [0, 1, 2, 7, 8] (AW.loop (fun m af h => ∃ i : Nat, i ≤ n ∧ m = n - i ∧ af = [(0, ints p), (1, ints q), (2, .bool g), (7, .osl b n n), (8, .int .i64 i)] ∧ h = [.row b (((joinP (addF g) p q).take i ++ List.replicate (n - i) 0).map iav)]) n ⟨0, Nat.zero_le _, rfl, rfl, ?_⟩ ?_)
  · rw [List.map_append, List.map_replicate]; rfl
  rintro m af h ⟨i, hi, rfl, rfl, rfl⟩
  refine AW.seq ?_
  by_cases hlt : i < n
  · have hset := fill_set (z := (0 : Int)) hjl (joinP_get (g := addF g) (p := p) (q := q) (i := i) (by omega))
    have b1 := polyAt_bd hp i
    have b2 := polyAt_bd hq i
    have hmin : min (addF g (polyAt p i) (polyAt q i)) 1099511627777 = addF g (polyAt p i) (polyAt q i) := by unfold addF; split <;> omega
    rw [hmin] at hset
    generalize hL : (joinP (addF g) p q).take i ++ List.replicate (n - i) 0 = L at *
    have hLl : L.length = n := by rw [← hL]; simp; omega
    have hst : (L.map iav).set i (iav (addF g (polyAt p i) (polyAt q i))) = ((joinP (addF g) p q).take (i + 1) ++ List.replicate (n - (i + 1)) 0).map iav := by rw [← hset, List.map_set]
    have hss : ∀ v, ((L.map iav).set i v).set i (iav (addF g (polyAt p i) (polyAt q i))) = (L.map iav).set i (iav (addF g (polyAt p i) (polyAt q i))) := fun v => by rw [List.set_set]
    have hLm : (L.map iav).length = n := by rw [List.length_map, hLl]
    generalize hM : L.map iav = M at *
    have hfin : ∀ v, M.set i v = M.set i (iav (addF g (polyAt p i) (polyAt q i))) → M.set i v = ((joinP (addF g) p q).take (i + 1) ++ List.replicate (n - (i + 1)) 0).map iav := fun v h => h.trans hst
    have z1 : ∀ {l : List Int}, ¬ i < l.length → polyAt l i = 0 := fun {l} h => by unfold polyAt; rw [List.getElem?_eq_none (by omega)]; rfl
    have z2 : ∀ {l : List Int}, i < l.length → (l.map iav)[((i : Nat) : Int).toNat]? = some (iav (polyAt l i)) := fun {l} h => by
      obtain ⟨x, hx⟩ := get_lt h
      have h2 := map_get (g := iav) hx
      rw [show polyAt l i = x by unfold polyAt; rw [hx]; rfl]
      exact h2
    by_cases h1 : i < p.length <;> by_cases h2 : i < q.length <;> cases g
    all_goals first
      | have hx1 := z2 h1
      | have hx1 := z1 h1
    all_goals first
      | have hx2 := z2 h2
      | have hx2 := z1 h2
    all_goals
      repeat' (first
        | refine AW.seq ?_
        | (refine AW.region_at 3 ?_ <;> refine AL.e ?_ <;> refine AL.e ?_ <;> refine AL.d AOp.ln ?_ <;> refine AL.e ?_ <;> refine AL.nil ?_)
        | (refine AW.region_at 5 ?_ <;> refine AL.e ?_ <;> refine AL.e ?_ <;> refine AL.nil ?_)
        | (refine AW.region_at 6 ?_ <;> refine AL.e ?_ <;> refine AL.e ?_ <;> refine AL.d AOp.ln ?_ <;> refine AL.e ?_ <;> refine AL.nil ?_)
        | (refine AW.region_at 7 ?_ <;> refine AL.e ?_ <;> refine AL.e ?_ <;> (first | refine AL.d (AOp.index_sl rfl rfl (by omega) hx1 (by kernel_rfl) rfl) ?_ | refine AL.d (AOp.index_sl rfl rfl (by omega) hx2 (by kernel_rfl) rfl) ?_ | refine AL.d (AOp.index_osl rfl rfl (by omega) (by omega) (by kernel_rfl)) ?_) <;> refine AL.d AOp.la ?_ <;> refine AL.e ?_ <;> refine AL.nil ?_)
        | (refine AW.region_at 8 ?_ <;> refine AL.e ?_ <;> refine AL.e ?_ <;> refine AL.d AOp.ln ?_ <;> refine AL.e ?_ <;> refine AL.nil ?_)
        | (refine AW.region_at 9 ?_ <;> refine AL.e ?_ <;> refine AL.e ?_ <;> (first | refine AL.d (AOp.index_sl rfl rfl (by omega) hx1 (by kernel_rfl) rfl) ?_ | refine AL.d (AOp.index_sl rfl rfl (by omega) hx2 (by kernel_rfl) rfl) ?_ | refine AL.d (AOp.index_osl rfl rfl (by omega) (by omega) (by kernel_rfl)) ?_) <;> refine AL.d AOp.la ?_ <;> refine AL.e ?_ <;> refine AL.nil ?_)
        | (refine AW.region_at 10 ?_ <;> refine AL.e ?_ <;> refine AL.e ?_ <;> refine AL.e ?_ <;> refine AL.e ?_ <;> refine AL.d AOp.ad ?_ <;> (first | refine AL.d (AOp.index_sl rfl rfl (by omega) hx1 (by kernel_rfl) rfl) ?_ | refine AL.d (AOp.index_sl rfl rfl (by omega) hx2 (by kernel_rfl) rfl) ?_ | refine AL.d (AOp.index_osl rfl rfl (by omega) (by omega) (by kernel_rfl)) ?_) <;> refine AL.store_cell 0 rfl rfl rfl (by first | simpa using (show i < M.length by omega) | (simp; omega)) rfl rfl (by kernel_rfl) ?_ <;> refine AL.nil ?_)
        | (refine AW.region_at 11 ?_ <;> refine AL.e ?_ <;> refine AL.nil ?_)
        | (refine AW.region_at 12 ?_ <;> refine AL.e ?_ <;> refine AL.e ?_ <;> refine AL.e ?_ <;> refine AL.e ?_ <;> (first | refine AL.d (AOp.max2 rfl rfl) ?_ | refine AL.d (AOp.max2 rfl rfl) ?_) <;> (first | refine AL.d (AOp.index_sl rfl rfl (by omega) hx1 (by kernel_rfl) rfl) ?_ | refine AL.d (AOp.index_sl rfl rfl (by omega) hx2 (by kernel_rfl) rfl) ?_ | refine AL.d (AOp.index_osl rfl rfl (by omega) (by omega) (by kernel_rfl)) ?_) <;> refine AL.store_cell 0 rfl rfl rfl (by first | simpa using (show i < M.length by omega) | (simp; omega)) rfl rfl (by kernel_rfl) ?_ <;> refine AL.nil ?_)
        | (refine AW.region_at 4 ?_ <;> refine AL.e ?_ <;> refine AL.d AOp.ad ?_ <;> refine AL.e ?_ <;> refine AL.nil ?_)
        | refine AW.cond_true rfl ?_
        | refine AW.cond_false rfl ?_
        | refine AW.block ?_
        | refine AW.endblk ?_
        | refine AW.skip ?_
        | refine AW.exit rfl ?_
        | refine AW.label ?_
        | refine AW.j (fun hb => ?_) (fun hb => ?_))
      all_goals try (exfalso; simp only [decide_eq_true_eq, decide_eq_false_iff_not, List.length_map] at *; omega)
    all_goals try (exfalso; cases hb; done)
    all_goals refine AW.again_keep (n - (i + 1)) [0, 1, 2, 7, 8] (by omega) ⟨i + 1, hlt, rfl, rfl, congrArg (fun z => [Own.row b z]) ?_⟩
    all_goals simp only [Int.toNat_natCast, List.set_set]
    all_goals (rw [← hst]; congr 1)
    all_goals (show AV.int .i64 _ = AV.int .i64 _; congr 1)
    all_goals first
      | rfl
      | (rw [hx1]; rfl)
      | (rw [hx2]; rfl)
      | (rw [hx1, hx2]; rfl)
  · obtain rfl : i = n := by omega
    repeat' (first
      | refine AW.seq ?_
      | (refine AW.region_at 3 ?_ <;> refine AL.e ?_ <;> refine AL.e ?_ <;> refine AL.d AOp.ln ?_ <;> refine AL.e ?_ <;> refine AL.nil ?_)
      | refine AW.cond_true rfl ?_
      | refine AW.cond_false rfl ?_
      | refine AW.block ?_
      | refine AW.endblk ?_
      | refine AW.skip ?_
      | refine AW.exit rfl ?_
      | refine AW.label ?_
      | refine AW.j (fun hb => ?_) (fun hb => ?_))
    all_goals try (exfalso; simp only [decide_eq_true_eq, decide_eq_false_iff_not] at *; omega)
    refine AW.freeze_row 0 7 rfl rfl (by simp; omega) (all_map fun _ => rfl) ?_
    repeat' (first
      | refine AW.seq ?_
      | (refine AW.region_at 13 ?_ <;> refine AL.e ?_ <;> refine AL.e ?_ <;> refine AL.nil ?_)
      | refine AW.cond_true rfl ?_
      | refine AW.cond_false rfl ?_
      | refine AW.block ?_
      | refine AW.endblk ?_
      | refine AW.skip ?_
      | refine AW.exit rfl ?_
      | refine AW.label ?_
      | refine AW.j (fun hb => ?_) (fun hb => ?_))
    refine AW.retv rfl ⟨?_, rfl⟩
    show AEnd.ret (.sl (((joinP (addF g) p q).take i ++ List.replicate (i - i) 0).map iav)) = _
    rw [Nat.sub_self, List.replicate_zero, List.append_nil, List.take_of_length_le (by omega)]
    rfl
section
variable {C : Cx} {ds : List Deferred} {ks : List K} {af : AF} {ah : AH} {ops : Array Oper} {rest : List Oper}
theorem good_thaw {a : Act} {w : World} (g : Go.SX.Good C ds af ah a w) {i d b n : Nat} {xs : List AV} (hi : ah[i]? = some (.row b xs)) (hd : get af d = some (.osl b n n)) (hn : n = xs.length) : Go.SX.Good C ds ((d, .slt xs (some b) n) :: af) (.tail (some b) n n 1 :: ah.eraseIdx i) a w := by
  subst hn
  have g' := g.sub (List.eraseIdx_sublist ah i)
  obtain ⟨cs, t, hh, hr⟩ := g.st.rel _ (List.mem_of_getElem? hi)
  have hbm := List.mem_of_getElem? hi
  have hout : ∀ y ∈ ah.eraseIdx i, y.blk ≠ some b := by
    intro y hy hyb
    obtain ⟨e1, _⟩ := mem_split hi
    have hn := g.st.nodup
    rw [e1, List.filterMap_append, List.nodup_append, List.filterMap_cons] at hn
    simp only [Own.blk] at hn
    rw [List.eraseIdx_eq_take_drop_succ] at hy
    rcases List.mem_append.1 hy with hy | hy
    · exact hn.2.2 b (List.mem_filterMap.2 ⟨y, hy, hyb⟩) b (by simp) rfl
    · exact (List.nodup_cons.1 hn.2.1).1 (List.mem_filterMap.2 ⟨y, hy, hyb⟩)
  have hreg : ∀ b' o, reg (.tail (some b) xs.length xs.length 1 :: ah.eraseIdx i) b' o → reg ah b' o := by
    rintro b' o ⟨x, hx, hr⟩
    rcases List.mem_cons.1 hx with rfl | hx
    · refine ⟨_, hbm, ?_⟩
      have := hr.1
      exact Option.some.inj this
    · exact ⟨x, (List.eraseIdx_sublist ah i).subset hx, hr⟩
  have hsof : ∀ b' o, Sof C.Fr (.tail (some b) xs.length xs.length 1 :: ah.eraseIdx i) b' o → Sof C.Fr ah b' o := fun b' o h => h.imp id (hreg b' o)
  have hsz : xs.length * 1 ≤ cs.size := by
    rcases Nat.eq_zero_or_pos xs.length with h | h
    · omega
    · obtain ⟨x, hx⟩ := get_lt (show xs.length - 1 < xs.length by omega)
      obtain ⟨v, hv, _⟩ := hr _ x hx
      have := (Array.getElem?_eq_some_iff.1 hv).1
      omega
  refine ⟨g.size, g.defers, ⟨?_, ?_, ?_, g.st.frlt, ?_⟩, g.ext, fun b' o hb h => g.old b' o hb (hreg b' o h), ?_⟩
  · rw [List.filterMap_cons]
    show (b :: (ah.eraseIdx i).filterMap Own.blk).Nodup
    refine List.nodup_cons.2 ⟨fun hm => ?_, g'.st.nodup⟩
    obtain ⟨y, hy, hyb⟩ := List.mem_filterMap.1 hm
    exact hout y hy hyb
  · intro o ho b' hb
    rcases List.mem_cons.1 ho with rfl | ho
    · exact g.st.lt _ hbm b' hb
    · exact g'.st.lt o ho b' hb
  · intro o ho b' hb
    rcases List.mem_cons.1 ho with rfl | ho
    · exact g.st.fr _ hbm b' hb
    · exact g'.st.fr o ho b' hb
  · intro o ho
    rcases List.mem_cons.1 ho with rfl | ho
    · exact ⟨Nat.le_refl _, cs, t, hh, hsz⟩
    · exact (g.st.rel o ((List.eraseIdx_sublist ah i).subset ho)).mv (Mv.same w hsof) fun _ _ => rfl
  · intro j v hj
    rw [get_cons] at hj
    by_cases e : d = j
    · subst e
      rw [if_pos rfl] at hj
      obtain rfl := Option.some.inj hj
      obtain ⟨hu, hl1, hl2⟩ := (g.fr d _ hd).osl
      rw [hu]
      refine ⟨?_, by simp [Shape]⟩
      show RelC _ _ (.slt xs (some b) xs.length) [_]
      simp only [RelC]
      refine ⟨rfl, Nat.le_refl _, hl2, fun _ => ⟨b, 1, rfl, ?_⟩⟩
      have hno : ∀ o, o < xs.length → ¬ Sof C.Fr (.tail (some b) xs.length xs.length 1 :: ah.eraseIdx i) b o := by
        rintro o hlt (hF | ⟨y, hy, hy'⟩)
        · exact g.st.fr _ hbm b rfl _ hF
        · rcases List.mem_cons.1 hy with rfl | hy
          · have := hy'.2; omega
          · exact hout y hy (reg_blk hy')
      have key : ∀ (l : List AV) (o : Nat), o + l.length = xs.length → (∀ (k : Nat) x, l[k]? = some x → ∃ v, cs[o + k]? = some v ∧ RelC (Sof C.Fr ah) w x [v]) → RelRow (Sof C.Fr (.tail (some b) xs.length xs.length 1 :: ah.eraseIdx i)) w l 1 b o := by
        intro l
        induction l with
        | nil => intro o _ _; simp [RelRow]
        | cons x l ih =>
          intro o hol h
          simp only [List.length_cons] at hol
          simp only [RelRow]
          obtain ⟨v, hv, hrv⟩ := h 0 x rfl
          refine ⟨⟨[v], rfl, RelC.mv (Mv.same w hsof) _ _ hrv, fun j u hj => ?_⟩, ih (o + 1) (by omega) fun k y hk => ?_⟩
          · cases j with
            | zero => simp only [List.getElem?_cons_zero, Option.some.injEq] at hj; subst hj; exact ⟨hno _ (by omega), by rw [cell_of_row w b _ cs t (0, 0) hh]; exact hv⟩
            | succ j => simp at hj
          · obtain ⟨v, hv, hrv⟩ := h (k + 1) y (by simpa using hk)
            exact ⟨v, by rw [show o + 1 + k = o + (k + 1) by omega]; exact hv, hrv⟩
      exact key xs 0 (by omega) fun k x hk => by rw [Nat.zero_add]; exact hr k x hk
    · rw [if_neg e] at hj
      exact (g.fr j v hj).mv (Mv.same w hsof)
/-- A full row becomes a slice that may be grown. -/
theorem AL.thaw_row (i d : Nat) {b n : Nat} {xs : List AV} (hi : ah[i]? = some (.row b xs)) (hd : get af d = some (.osl b n n)) (hn : n = xs.length) (k : AL C ds ks ops rest ((d, .slt xs (some b) n) :: af) (.tail (some b) n n 1 :: ah.eraseIdx i)) : AL C ds ks ops rest af ah := .mk fun a w g => k.out a w (good_thaw g hi hd hn)
end
theorem ref_shift (p : List Int) (k : Nat) (hk : k ≤ 12) (hl : p.length ≤ 1000000) : Tri Tryz.prog 57 [ints p, .int .i64 k] [] (D (ints (raisedP p k)) []) := by
  by_cases hp : p = []
  · subst hp
    refine Tri.enter 12 Tryz.func57 rfl rfl rfl rfl fun Fr w0 => ?_
    repeat' (first
      | refine AW.seq ?_
      | (refine AW.region_at 0 ?_ <;> refine AL.e ?_ <;> refine AL.nil ?_)
      | (refine AW.region_at 1 ?_ <;> refine AL.e ?_ <;> refine AL.d AOp.ln ?_ <;> refine AL.e ?_ <;> refine AL.nil ?_)
      | (refine AW.region_at 2 ?_ <;> refine AL.e ?_ <;> refine AL.nil ?_)
      | refine AW.cond_true rfl ?_
      | refine AW.cond_false rfl ?_
      | refine AW.block ?_
      | refine AW.endblk ?_
      | refine AW.skip ?_
      | refine AW.exit rfl ?_
      | refine AW.label ?_
      | refine AW.j (fun hb => ?_) (fun hb => ?_))
    · exact AW.retv rfl ⟨rfl, rfl⟩
    all_goals (exfalso; simp at hb; done)
  · refine Tri.enter 12 Tryz.func57 rfl rfl rfl rfl fun Fr w0 => ?_
    have hlen : p.length ≠ 0 := fun h => hp (List.length_eq_zero_iff.1 h)
    repeat' (first
      | refine AW.seq ?_
      | (refine AW.region_at 0 ?_ <;> refine AL.e ?_ <;> refine AL.nil ?_)
      | (refine AW.region_at 1 ?_ <;> refine AL.e ?_ <;> refine AL.d AOp.ln ?_ <;> refine AL.e ?_ <;> refine AL.nil ?_)
      | refine AW.cond_true rfl ?_
      | refine AW.cond_false rfl ?_
      | refine AW.block ?_
      | refine AW.endblk ?_
      | refine AW.skip ?_
      | refine AW.exit rfl ?_
      | refine AW.label ?_
      | refine AW.j (fun hb => ?_) (fun hb => ?_))
    · exfalso; simp at hb; exact hp hb
    refine AW.region_at 3 ?_
    refine AL.e ?_
    refine AL.makeSlice (n := k) (e := 3) (c := .int .i64 0) (z := .int .i64 0) (bytes := 8) rfl rfl (by kernel_rfl) rfl (by omega) (by omega) rfl fun b => ?_
    refine AL.e ?_
    refine AL.thaw_row 0 9 rfl rfl (by simp) ?_
    refine AL.append (i := 0) (xs := List.replicate k (.int .i64 0)) (ys := p.map iav) (e := 3) (sz := 1) (bytes := 8) rfl (by rw [List.length_replicate]; rfl) rfl rfl (by kernel_rfl) (by kernel_rfl) (by intro x hx; rw [(List.mem_replicate.1 hx).2]; rfl) (all_map fun _ => rfl) (ok_map fun _ => rfl) (by rw [List.length_map, List.length_replicate]; omega) (by rw [List.length_map, List.length_replicate]; omega) rfl fun b' c' => ?_
    refine AL.e ?_
    refine AL.nil ?_
    refine AW.as_sl 4 rfl ?_
    refine AW.ret_drop rfl (List.nil_sublist _) ⟨?_, rfl⟩
    rw [raisedP, if_neg hp]
    show _ = AEnd.ret (.sl ((List.replicate k 0 ++ p).map iav))
    rw [List.map_append, List.map_replicate]
    rfl
end Go.Proofs.YtdedkpfbfklgbaaGreat
namespace Go.Proofs.YtdedkpfbfklgbaaGreat
open Go.RowKit Go.SX
set_option maxRecDepth 100000
set_option maxHeartbeats 4000000
set_option linter.unusedVariables false
set_option linter.unusedSimpArgs false

/-! ### Few statements -/
theorem wgt_cnt (most : Int) : ∀ (n : Nat) (l : List GStmt), cntL l ≤ n → (∀ x ∈ l, x.Ok) → ∀ a, a ≤ wgtL most l a ∧ (wgtL most l a ≤ most → a + cntL l ≤ wgtL most l a) := by
  intro n
  induction n using Nat.strongRecOn with
  | _ n ih =>
    intro l hn hl
    induction l with
    | nil => intro a; rw [wgtL]; exact ⟨Int.le_refl _, fun _ => by show a + (0 : Nat) ≤ a; omega⟩
    | cons s l ihl =>
      intro a
      have hs := hl s (by simp)
      have hcs := cntS_eq s
      have hcl : cntL (s :: l) = cntS s + cntL l := rfl
      have hw := ownW_le hs
      obtain ⟨_, _, hb, _, he⟩ := hs
      have h1 := ih (cntL s.Body) (by omega) s.Body (Nat.le_refl _) hb (a + ownW s)
      have h2 := ih (cntL s.Else) (by omega) s.Else (Nat.le_refl _) he (wgtL most s.Body (a + ownW s))
      have h3 := ihl (by omega) (fun x hx => hl x (by simp [hx])) (wgtS most s a)
      rw [wgtS_eq] at h3
      rw [wgtL]
      split
      · rw [wgtS_eq]
        exact ⟨by omega, fun h => by have := h3.2 h; have := h2.2 (by omega); have := h1.2 (by omega); omega⟩
      · exact ⟨Int.le_refl _, fun h => by omega⟩
theorem few_cnt_ {most : Nat} {c : GCode} (hc : c.Ok) (h : fewC c most = true) : cntL c.Body ≤ most := by
  simp only [fewC, Bool.and_eq_true, decide_eq_true_eq] at h
  have := (wgt_cnt most (cntL c.Body) c.Body (Nat.le_refl _) hc.2.2.2.2 0).2 h.2
  omega

/-! ### Values -/
def pv (n : Int) : List Int → Int
  | [] => 0
  | a :: p => a + n * pv n p
def sumP : List Int → Int
  | [] => 0
  | a :: p => a + sumP p
theorem sumP_nonneg : ∀ {p : List Int}, PolyOk p → 0 ≤ sumP p
  | [], _ => Int.le_refl _
  | a :: p, h => by have h1 := h a (by simp); have h2 := sumP_nonneg (p := p) fun x hx => h x (by simp [hx]); simp only [sumP]; omega
theorem sumP_mem : ∀ {p : List Int}, PolyOk p → ∀ x ∈ p, x ≤ sumP p
  | [], _, x, h => by cases h
  | a :: p, h, x, hx => by
    have h1 := h a (by simp)
    have h2 : PolyOk p := fun x hx => h x (by simp [hx])
    have h3 := sumP_nonneg h2
    simp only [sumP]
    rcases List.mem_cons.1 hx with rfl | hx
    · omega
    · have := sumP_mem h2 x hx; omega
theorem pv_nonneg {n : Int} (hn : 0 ≤ n) : ∀ {p : List Int}, PolyOk p → 0 ≤ pv n p
  | [], _ => Int.le_refl _
  | a :: p, h => by
    have h1 := h a (by simp)
    have h2 := pv_nonneg hn (p := p) fun x hx => h x (by simp [hx])
    have := Int.mul_nonneg hn h2
    simp only [pv]; omega
theorem joinP_cons (g : Int → Int → Int) (a b : Int) (p q : List Int) : joinP g (a :: p) (b :: q) = min (g a b) 1099511627777 :: joinP g p q := by
  unfold joinP
  have : max (a :: p).length (b :: q).length = max p.length q.length + 1 := by simp only [List.length_cons]; omega
  rw [this, List.range_succ_eq_map, List.map_cons, List.map_map]
  rfl
theorem joinP_nil_cons (g : Int → Int → Int) (b : Int) (q : List Int) : joinP g [] (b :: q) = min (g 0 b) 1099511627777 :: joinP g [] q := by
  unfold joinP
  have : max ([] : List Int).length (b :: q).length = max ([] : List Int).length q.length + 1 := by simp
  rw [this, List.range_succ_eq_map, List.map_cons, List.map_map]
  rfl
theorem joinP_cons_nil (g : Int → Int → Int) (a : Int) (p : List Int) : joinP g (a :: p) [] = min (g a 0) 1099511627777 :: joinP g p [] := by
  unfold joinP
  have : max (a :: p).length ([] : List Int).length = max p.length ([] : List Int).length + 1 := by simp
  rw [this, List.range_succ_eq_map, List.map_cons, List.map_map]
  rfl
theorem joinP_nil (g : Int → Int → Int) : joinP g [] [] = [] := rfl
/-- Sums, where nothing is cut off. -/
theorem plusP_pv (n : Int) : ∀ (p q : List Int), PolyOk p → PolyOk q → sumP p + sumP q ≤ 1099511627777 → pv n (plusP p q) = pv n p + pv n q ∧ sumP (plusP p q) = sumP p + sumP q
  | [], [], _, _, _ => ⟨by simp [plusP, joinP_nil, pv], by simp [plusP, joinP_nil, sumP]⟩
  | [], b :: q, hp, hq, h => by
    have hb := hq b (by simp)
    have hq' : PolyOk q := fun x hx => hq x (by simp [hx])
    have := sumP_nonneg hq'
    simp only [sumP] at h
    have ih := plusP_pv n [] q hp hq' (by simp only [sumP]; omega)
    unfold plusP at ih ⊢
    rw [joinP_nil_cons]
    simp only [pv, sumP] at ih ⊢
    rw [ih.1, ih.2, show min (0 + b) 1099511627777 = b by omega]
    simp
  | a :: p, [], hp, hq, h => by
    have ha := hp a (by simp)
    have hp' : PolyOk p := fun x hx => hp x (by simp [hx])
    have := sumP_nonneg hp'
    simp only [sumP] at h
    have ih := plusP_pv n p [] hp' hq (by simp only [sumP]; omega)
    unfold plusP at ih ⊢
    rw [joinP_cons_nil]
    simp only [pv, sumP] at ih ⊢
    rw [ih.1, ih.2, show min (a + 0) 1099511627777 = a by omega]
    simp
  | a :: p, b :: q, hp, hq, h => by
    have ha := hp a (by simp)
    have hb := hq b (by simp)
    have hp' : PolyOk p := fun x hx => hp x (by simp [hx])
    have hq' : PolyOk q := fun x hx => hq x (by simp [hx])
    have h1 := sumP_nonneg hp'
    have h2 := sumP_nonneg hq'
    simp only [sumP] at h
    have ih := plusP_pv n p q hp' hq' (by omega)
    unfold plusP at ih ⊢
    rw [joinP_cons]
    simp only [pv, sumP] at ih ⊢
    rw [ih.1, ih.2, show min (a + b) 1099511627777 = a + b by omega, Int.mul_add]
    omega
theorem maxP_pv {n : Int} (hn : 0 ≤ n) : ∀ (p q : List Int), PolyOk p → PolyOk q → pv n p ≤ pv n (joinP max p q) ∧ pv n q ≤ pv n (joinP max p q) ∧ sumP (joinP max p q) ≤ sumP p + sumP q
  | [], [], _, _ => ⟨by simp [joinP_nil], by simp [joinP_nil], by simp [joinP_nil, sumP]⟩
  | [], b :: q, hp, hq => by
    have hb := hq b (by simp)
    have hq' : PolyOk q := fun x hx => hq x (by simp [hx])
    have ih := maxP_pv hn [] q hp hq'
    rw [joinP_nil_cons]
    simp only [pv, sumP] at ih ⊢
    have h1 := Int.mul_le_mul_of_nonneg_left ih.1 hn
    have h2 := Int.mul_le_mul_of_nonneg_left ih.2.1 hn
    rw [Int.mul_zero] at h1
    rw [show min (max 0 b) 1099511627777 = b by omega]
    omega
  | a :: p, [], hp, hq => by
    have ha := hp a (by simp)
    have hp' : PolyOk p := fun x hx => hp x (by simp [hx])
    have ih := maxP_pv hn p [] hp' hq
    rw [joinP_cons_nil]
    simp only [pv, sumP] at ih ⊢
    have h1 := Int.mul_le_mul_of_nonneg_left ih.1 hn
    have h2 := Int.mul_le_mul_of_nonneg_left ih.2.1 hn
    rw [Int.mul_zero] at h2
    rw [show min (max a 0) 1099511627777 = a by omega]
    omega
  | a :: p, b :: q, hp, hq => by
    have ha := hp a (by simp)
    have hb := hq b (by simp)
    have hp' : PolyOk p := fun x hx => hp x (by simp [hx])
    have hq' : PolyOk q := fun x hx => hq x (by simp [hx])
    have ih := maxP_pv hn p q hp' hq'
    rw [joinP_cons]
    simp only [pv, sumP] at ih ⊢
    have h1 := Int.mul_le_mul_of_nonneg_left ih.1 hn
    have h2 := Int.mul_le_mul_of_nonneg_left ih.2.1 hn
    rw [show min (max a b) 1099511627777 = max a b by omega]
    omega
theorem zeros_pv (n : Int) (p : List Int) : ∀ k : Nat, pv n (List.replicate k 0 ++ p) = n ^ k * pv n p ∧ sumP (List.replicate k 0 ++ p) = sumP p
  | 0 => ⟨by simp, rfl⟩
  | k + 1 => by
    have ih := zeros_pv n p k
    rw [List.replicate_succ]
    simp only [List.cons_append, pv, sumP]
    rw [ih.1, ih.2]
    refine ⟨?_, by omega⟩
    rw [Int.pow_succ, Int.zero_add, Int.mul_comm (n ^ k) n, Int.mul_assoc]
theorem raisedP_pv (n : Int) (p : List Int) (k : Nat) : pv n (raisedP p k) = n ^ k * pv n p ∧ sumP (raisedP p k) = sumP p := by
  unfold raisedP
  split
  · rename_i h; subst h; simp [pv, sumP]
  · exact zeros_pv n p k

/-! ### Costs -/
mutual
def costS (n : Int) : GStmt → Int
  | ⟨k, f, g, r, nn, nm, fr, lit, regs, body, els⟩ => if k = 7 then n * costL n body else if k = 9 then n ^ nn.toNat * costL n body else if k = 8 then max (costL n body) (costL n els) else 0
def costL (n : Int) : List GStmt → Int
  | [] => 0
  | s :: l => 1 + costS n s + costL n l
end
theorem costS_eq (n : Int) (s : GStmt) : costS n s = if s.Kind = 7 then n * costL n s.Body else if s.Kind = 9 then n ^ s.N.toNat * costL n s.Body else if s.Kind = 8 then max (costL n s.Body) (costL n s.Else) else 0 := by cases s; rfl
theorem costL_nonneg {n : Int} (hn : 0 ≤ n) : ∀ (d : Nat) (l : List GStmt), cntL l ≤ d → 0 ≤ costL n l := by
  intro d
  induction d using Nat.strongRecOn with
  | _ d ih =>
    intro l hd
    induction l with
    | nil => exact Int.le_refl _
    | cons s l ihl =>
      have hcs := cntS_eq s
      have hcl : cntL (s :: l) = cntS s + cntL l := rfl
      have h1 := ih (cntL s.Body) (by omega) s.Body (Nat.le_refl _)
      have h2 := ih (cntL s.Else) (by omega) s.Else (Nat.le_refl _)
      have h3 := ihl (by omega)
      have h4 : 0 ≤ costS n s := by
        rw [costS_eq]
        split
        · exact Int.mul_nonneg hn h1
        · split
          · exact Int.mul_nonneg (Int.pow_nonneg hn) h1
          · split <;> omega
      simp only [costL]; omega
theorem costS_nonneg {n : Int} (hn : 0 ≤ n) (s : GStmt) : 0 ≤ costS n s := by
  have h1 := costL_nonneg hn (cntL s.Body) s.Body (Nat.le_refl _)
  have h2 := costL_nonneg hn (cntL s.Else) s.Else (Nat.le_refl _)
  rw [costS_eq]
  split
  · exact Int.mul_nonneg hn h1
  · split
    · exact Int.mul_nonneg (Int.pow_nonneg hn) h1
    · split <;> omega
theorem time_cost {n : Int} (hn : 0 ≤ n) : ∀ (d : Nat) (l : List GStmt), cntL l ≤ d → d ≤ 50000 → (∀ x ∈ l, NOk x) → ∀ out, PolyOk out → sumP out + cntL l ≤ 1000000 → pv n out + costL n l ≤ pv n (timeL l out) ∧ sumP (timeL l out) ≤ sumP out + cntL l := by
  intro d
  induction d using Nat.strongRecOn with
  | _ d ih =>
    intro l hd hd2 hl
    induction l with
    | nil => intro out ho hs; simp only [timeL, costL]; exact ⟨by omega, by omega⟩
    | cons s l ihl =>
      intro out ho hso
      have hs := hl s (by simp)
      have hcs := cntS_eq s
      have hcl : cntL (s :: l) = cntS s + cntL l := rfl
      have f1 := timeL_facts (cntL s.Body) s.Body (Nat.le_refl _) hs.body [] nil_ok
      have f2 := timeL_facts (cntL s.Else) s.Else (Nat.le_refl _) hs.els [] nil_ok
      have b1 := ih (cntL s.Body) (by omega) s.Body (Nat.le_refl _) (by omega) hs.body [] nil_ok (by simp only [sumP]; omega)
      have b2 := ih (cntL s.Else) (by omega) s.Else (Nat.le_refl _) (by omega) hs.els [] nil_ok (by simp only [sumP]; omega)
      simp only [pv, sumP, Int.zero_add] at b1 b2
      have s1 := sumP_nonneg f1.1
      have s2 := sumP_nonneg f2.1
      have so := sumP_nonneg ho
      have hone : sumP [1] = 1 := rfl
      have hone2 : pv n [1] = 1 := by simp [pv]
      have o1 := plusP_pv n out [1] ho one_ok (by rw [hone]; omega)
      have oo := plusP_ok ho one_ok
      rw [hone] at o1
      rw [hone2] at o1
      have key : pv n out + 1 + costS n s ≤ pv n (timeS s out) ∧ sumP (timeS s out) ≤ sumP out + cntS s ∧ PolyOk (timeS s out) := by
        rw [timeS_eq, costS_eq]
        simp only
        split
        · have r := raisedP_pv n (timeL s.Body []) 1
          have q := plusP_pv n (plusP out [1]) (raisedP (timeL s.Body []) 1) oo (raisedP_ok f1.1) (by rw [o1.2, r.2]; omega)
          rw [q.1, q.2, o1.1, o1.2, r.1, r.2]
          have := Int.mul_le_mul_of_nonneg_left b1.1 hn
          rw [show n ^ 1 = n from Int.pow_one n]
          exact ⟨by omega, by omega, plusP_ok oo (raisedP_ok f1.1)⟩
        · split
          · have r := raisedP_pv n (timeL s.Body []) s.N.toNat
            have q := plusP_pv n (plusP out [1]) (raisedP (timeL s.Body []) s.N.toNat) oo (raisedP_ok f1.1) (by rw [o1.2, r.2]; omega)
            rw [q.1, q.2, o1.1, o1.2, r.1, r.2]
            have := Int.mul_le_mul_of_nonneg_left b1.1 (show 0 ≤ n ^ s.N.toNat from Int.pow_nonneg hn)
            exact ⟨by omega, by omega, plusP_ok oo (raisedP_ok f1.1)⟩
          · split
            · have r := maxP_pv hn (timeL s.Body []) (timeL s.Else []) f1.1 f2.1
              have rj : PolyOk (joinP max (timeL s.Body []) (timeL s.Else [])) := joinP_ok f1.1 f2.1 fun a b h1 h2 => by omega
              have q := plusP_pv n (plusP out [1]) (joinP max (timeL s.Body []) (timeL s.Else [])) oo rj (by rw [o1.2]; omega)
              rw [q.1, q.2, o1.1, o1.2]
              exact ⟨by omega, by omega, plusP_ok oo rj⟩
            · rw [o1.1, o1.2]; exact ⟨by omega, by omega, oo⟩
      have h3 := ihl (by omega) (fun x hx => hl x (by simp [hx])) (timeS s out) key.2.2 (by omega)
      rw [timeL]
      simp only [costL]
      exact ⟨by omega, by omega⟩

/-! ### The steps -/
end Go.Proofs.YtdedkpfbfklgbaaGreat
namespace Go.Proofs.YtdedkpfbfklgbaaGreat
open Go.RowKit Go.SX
set_option maxRecDepth 100000
set_option maxHeartbeats 4000000
set_option linter.unusedVariables false
set_option linter.unusedSimpArgs false

theorem addF_plus (p q : List Int) : joinP (addF false) p q = plusP p q := rfl
theorem addF_max (p q : List Int) : joinP (addF true) p q = joinP max p q := rfl
theorem Bd.ok {p : List Int} (h : Bd p) : PolyOk p := fun x hx => by have := h x hx; omega
theorem bd_of {p : List Int} (h : PolyOk p) (hs : sumP p ≤ 1000000) : Bd p := fun x hx => by have := h x hx; have := sumP_mem h x hx; omega
theorem one_bd : Bd [1] := by intro x h; simp at h; omega
theorem plusP_sum {p q : List Int} (hp : PolyOk p) (hq : PolyOk q) (h : sumP p + sumP q ≤ 1000000) : sumP (plusP p q) = sumP p + sumP q := (plusP_pv 0 p q hp hq (by omega)).2
theorem raisedP_sum (p : List Int) (k : Nat) : sumP (raisedP p k) = sumP p := (raisedP_pv 0 p k).2
theorem timeL_sum {l : List GStmt} (hl : ∀ x ∈ l, NOk x) (hb : cntL l ≤ 50000) : PolyOk (timeL l []) ∧ (timeL l []).length ≤ 13 * cntL l ∧ sumP (timeL l []) ≤ cntL l := by
  have h1 := timeL_facts (cntL l) l (Nat.le_refl _) hl [] nil_ok
  have h2 := (time_cost (n := 0) (Int.le_refl _) (cntL l) l (Nat.le_refl _) hb hl [] nil_ok (by simp only [sumP]; omega)).2
  simp only [sumP, List.length_nil] at h1 h2
  exact ⟨h1.1, by omega, by omega⟩
theorem ref_Time : ∀ (n : Nat) (l : List GStmt), cntL l ≤ n → cntL l ≤ 50000 → l.length ≤ 4611686018427387904 → (∀ x ∈ l, x.Ok) → (∀ x ∈ l, NOk x) → Tri Tryz.prog 16 [.sl (l.map GStmt.av)] [] (D (ints (timeL l [])) []) := by
  intro n
  induction n using Nat.strongRecOn with
  | _ n ih =>
    intro l hn hc hl hok hno
    refine Tri.enter 56 Tryz.func16 rfl rfl rfl rfl fun Fr w0 => ?_
    repeat' (first
      | refine AW.seq ?_
      | (refine AW.region_at 0 ?_ <;> refine AL.e ?_ <;> refine AL.nil ?_)
      | (refine AW.region_at 1 ?_ <;> refine AL.e ?_ <;> refine AL.nil ?_)
      | (refine AW.region_at 2 ?_ <;> refine AL.e ?_ <;> refine AL.nil ?_)
      | refine AW.cond_true rfl ?_
      | refine AW.cond_false rfl ?_
      | refine AW.block ?_
      | refine AW.endblk ?_
      | refine AW.skip ?_
      | refine AW.exit rfl ?_
      | refine AW.label ?_
      | refine AW.j (fun hb => ?_) (fun hb => ?_))
    refine AW.prune [0, 3, 4] (AW.loop (fun m af h => ∃ (i : Nat) (out : List Int), i ≤ l.length ∧ m = l.length - i ∧ af = [(0, .sl (l.map GStmt.av)), (3, ints out), (4, .int .i64 i)] ∧ h = [] ∧ PolyOk out ∧ out.length ≤ 13 * 50000 ∧ sumP out + cntL (l.drop i) ≤ cntL l ∧ timeL l [] = timeL (l.drop i) out) l.length ⟨0, [], Nat.zero_le _, rfl, rfl, rfl, nil_ok, by simp, by simp [sumP], rfl⟩ ?_)
    rintro m af h ⟨i, out, hi, rfl, rfl, rfl, ho, hol, hos, he⟩
    refine AW.seq ?_
    by_cases hlt : i < l.length
    · obtain ⟨x, hx⟩ := get_lt hlt
      have hx' : (l.map GStmt.av)[((i : Nat) : Int).toNat]? = some x.st := GStmt.get hx
      have hxm := List.mem_of_getElem? hx
      have hxc := cnt_mem hxm
      have hcs := cntS_eq x
      have hxo := hok x hxm
      have hxn := hno x hxm
      obtain ⟨_, hb1, hb2, he1, he2⟩ := id hxo
      have hN := hxn.n
      rw [drop_cons hx, cntL] at hos
      obtain ⟨f1, g1, s1⟩ := timeL_sum hxn.body (by omega)
      obtain ⟨f2, g2, s2⟩ := timeL_sum hxn.els (by omega)
      have t1 := ih (cntL x.Body) (by omega) x.Body (Nat.le_refl _) (by omega) (by omega) hb2 hxn.body
      have t2 := ih (cntL x.Else) (by omega) x.Else (Nat.le_refl _) (by omega) (by omega) he2 hxn.els
      have so := sumP_nonneg ho
      have so1 := sumP_nonneg f1
      have so2 := sumP_nonneg f2
      have e1 : sumP [1] = 1 := rfl
      have c1 := ref_add out [1] false (bd_of ho (by omega)) one_bd (by omega) (by simp)
      rw [addF_plus] at c1
      have ho1 := plusP_ok ho one_ok
      have lo1 : (plusP out [1]).length = max out.length 1 := joinP_len _ _ _
      have u1 := plusP_sum ho one_ok (by omega)
      have r1 := ref_shift (timeL x.Body []) 1 (by omega) (by omega)
      have r2 := ref_shift (timeL x.Body []) x.N.toNat (by omega) (by omega)
      rw [Int.toNat_of_nonneg hN.1] at r2
      have l1 := raisedP_len (timeL x.Body []) 1
      have l2 := raisedP_len (timeL x.Body []) x.N.toNat
      have v1 := raisedP_sum (timeL x.Body []) 1
      have v2 := raisedP_sum (timeL x.Body []) x.N.toNat
      have w1 : PolyOk (raisedP (timeL x.Body []) 1) := raisedP_ok f1
      have w2 : PolyOk (raisedP (timeL x.Body []) x.N.toNat) := raisedP_ok f1
      have j1 := ref_add (timeL x.Body []) (timeL x.Else []) true (bd_of f1 (by omega)) (bd_of f2 (by omega)) (by omega) (by omega)
      rw [addF_max] at j1
      have lj : (joinP max (timeL x.Body []) (timeL x.Else [])).length = _ := joinP_len _ _ _
      have w3 : PolyOk (joinP max (timeL x.Body []) (timeL x.Else [])) := joinP_ok f1 f2 fun a b h1 h2 => by omega
      have v3 := (maxP_pv (n := 0) (Int.le_refl _) (timeL x.Body []) (timeL x.Else []) f1 f2).2.2
      have so3 := sumP_nonneg w3
      have p1 := ref_add (plusP out [1]) (raisedP (timeL x.Body []) 1) false (bd_of ho1 (by omega)) (bd_of w1 (by omega)) (by omega) (by omega)
      have p2 := ref_add (plusP out [1]) (raisedP (timeL x.Body []) x.N.toNat) false (bd_of ho1 (by omega)) (bd_of w2 (by omega)) (by omega) (by omega)
      have p3 := ref_add (plusP out [1]) (joinP max (timeL x.Body []) (timeL x.Else [])) false (bd_of ho1 (by omega)) (bd_of w3 (by omega)) (by omega) (by omega)
      rw [addF_plus] at p1 p2 p3
      have q1 : (plusP (plusP out [1]) (raisedP (timeL x.Body []) 1)).length = _ := joinP_len _ _ _
      have q2 : (plusP (plusP out [1]) (raisedP (timeL x.Body []) x.N.toNat)).length = _ := joinP_len _ _ _
      have q3 : (plusP (plusP out [1]) (joinP max (timeL x.Body []) (timeL x.Else []))).length = _ := joinP_len _ _ _
      have y1 := plusP_sum ho1 w1 (by omega)
      have y2 := plusP_sum ho1 w2 (by omega)
      have y3 := plusP_sum ho1 w3 (by omega)
      rw [drop_cons hx, timeL, timeS_eq] at he
      simp only at he
      repeat' (first
        | refine AW.seq ?_
        | (refine AW.region_at 3 ?_ <;> refine AL.e ?_ <;> refine AL.e ?_ <;> refine AL.d AOp.ln ?_ <;> refine AL.e ?_ <;> refine AL.nil ?_)
        | (refine AW.region_at 5 ?_ <;> refine AL.e ?_ <;> refine AL.d (AOp.lit (e := 3) (sz := 1) (by kernel_rfl) rfl rfl rfl (by simp [AV.size, ofConst]) (by decide)) ?_ <;> (first | refine AL.d (AOp.call rfl rfl c1) ?_ | refine AL.d (AOp.call rfl rfl t1) ?_ | refine AL.d (AOp.call rfl rfl t2) ?_ | refine AL.d (AOp.call rfl rfl r1) ?_ | refine AL.d (AOp.call rfl rfl r2) ?_ | refine AL.d (AOp.call rfl rfl j1) ?_ | refine AL.d (AOp.call rfl rfl p1) ?_ | refine AL.d (AOp.call rfl rfl p2) ?_ | refine AL.d (AOp.call rfl rfl p3) ?_) <;> refine AL.e ?_ <;> refine AL.nil ?_)
        | (refine AW.region_at 6 ?_ <;> refine AL.e ?_ <;> refine AL.e ?_ <;> refine AL.d (AOp.index_sl rfl rfl (by omega) hx' (by kernel_rfl) rfl) ?_ <;> (first | refine AL.d AOp.fa ?_ | refine AL.d (AOp.fr 12) ?_) <;> refine AL.d AOp.la ?_ <;> (first | refine AL.d (AOp.call rfl rfl c1) ?_ | refine AL.d (AOp.call rfl rfl t1) ?_ | refine AL.d (AOp.call rfl rfl t2) ?_ | refine AL.d (AOp.call rfl rfl r1) ?_ | refine AL.d (AOp.call rfl rfl r2) ?_ | refine AL.d (AOp.call rfl rfl j1) ?_ | refine AL.d (AOp.call rfl rfl p1) ?_ | refine AL.d (AOp.call rfl rfl p2) ?_ | refine AL.d (AOp.call rfl rfl p3) ?_) <;> refine AL.e ?_ <;> refine AL.nil ?_)
        | (refine AW.region_at 7 ?_ <;> refine AL.e ?_ <;> refine AL.e ?_ <;> refine AL.d (AOp.index_sl rfl rfl (by omega) hx' (by kernel_rfl) rfl) ?_ <;> (first | refine AL.d AOp.fa ?_ | refine AL.d (AOp.fr 0) ?_) <;> refine AL.d AOp.la ?_ <;> refine AL.nil ?_)
        | (refine AW.region_at 8 ?_ <;> refine AL.e ?_ <;> refine AL.e ?_ <;> refine AL.nil ?_)
        | (refine AW.region_at 9 ?_ <;> refine AL.e ?_ <;> refine AL.e ?_ <;> (first | refine AL.d (AOp.call rfl rfl c1) ?_ | refine AL.d (AOp.call rfl rfl t1) ?_ | refine AL.d (AOp.call rfl rfl t2) ?_ | refine AL.d (AOp.call rfl rfl r1) ?_ | refine AL.d (AOp.call rfl rfl r2) ?_ | refine AL.d (AOp.call rfl rfl j1) ?_ | refine AL.d (AOp.call rfl rfl p1) ?_ | refine AL.d (AOp.call rfl rfl p2) ?_ | refine AL.d (AOp.call rfl rfl p3) ?_) <;> (first | refine AL.d (AOp.call rfl rfl c1) ?_ | refine AL.d (AOp.call rfl rfl t1) ?_ | refine AL.d (AOp.call rfl rfl t2) ?_ | refine AL.d (AOp.call rfl rfl r1) ?_ | refine AL.d (AOp.call rfl rfl r2) ?_ | refine AL.d (AOp.call rfl rfl j1) ?_ | refine AL.d (AOp.call rfl rfl p1) ?_ | refine AL.d (AOp.call rfl rfl p2) ?_ | refine AL.d (AOp.call rfl rfl p3) ?_) <;> refine AL.e ?_ <;> refine AL.nil ?_)
        | (refine AW.region_at 10 ?_ <;> refine AL.e ?_ <;> refine AL.e ?_ <;> refine AL.nil ?_)
        | (refine AW.region_at 11 ?_ <;> refine AL.e ?_ <;> refine AL.e ?_ <;> refine AL.e ?_ <;> refine AL.e ?_ <;> refine AL.d (AOp.index_sl rfl rfl (by omega) hx' (by kernel_rfl) rfl) ?_ <;> (first | refine AL.d AOp.fa ?_ | refine AL.d (AOp.fr 4) ?_) <;> refine AL.d AOp.la ?_ <;> (first | refine AL.d (AOp.call rfl rfl c1) ?_ | refine AL.d (AOp.call rfl rfl t1) ?_ | refine AL.d (AOp.call rfl rfl t2) ?_ | refine AL.d (AOp.call rfl rfl r1) ?_ | refine AL.d (AOp.call rfl rfl r2) ?_ | refine AL.d (AOp.call rfl rfl j1) ?_ | refine AL.d (AOp.call rfl rfl p1) ?_ | refine AL.d (AOp.call rfl rfl p2) ?_ | refine AL.d (AOp.call rfl rfl p3) ?_) <;> (first | refine AL.d (AOp.call rfl rfl c1) ?_ | refine AL.d (AOp.call rfl rfl t1) ?_ | refine AL.d (AOp.call rfl rfl t2) ?_ | refine AL.d (AOp.call rfl rfl r1) ?_ | refine AL.d (AOp.call rfl rfl r2) ?_ | refine AL.d (AOp.call rfl rfl j1) ?_ | refine AL.d (AOp.call rfl rfl p1) ?_ | refine AL.d (AOp.call rfl rfl p2) ?_ | refine AL.d (AOp.call rfl rfl p3) ?_) <;> refine AL.e ?_ <;> refine AL.nil ?_)
        | (refine AW.region_at 12 ?_ <;> refine AL.e ?_ <;> refine AL.e ?_ <;> refine AL.nil ?_)
        | (refine AW.region_at 13 ?_ <;> refine AL.e ?_ <;> refine AL.e ?_ <;> refine AL.e ?_ <;> refine AL.e ?_ <;> refine AL.d (AOp.index_sl rfl rfl (by omega) hx' (by kernel_rfl) rfl) ?_ <;> (first | refine AL.d AOp.fa ?_ | refine AL.d (AOp.fr 13) ?_) <;> refine AL.d AOp.la ?_ <;> (first | refine AL.d (AOp.call rfl rfl c1) ?_ | refine AL.d (AOp.call rfl rfl t1) ?_ | refine AL.d (AOp.call rfl rfl t2) ?_ | refine AL.d (AOp.call rfl rfl r1) ?_ | refine AL.d (AOp.call rfl rfl r2) ?_ | refine AL.d (AOp.call rfl rfl j1) ?_ | refine AL.d (AOp.call rfl rfl p1) ?_ | refine AL.d (AOp.call rfl rfl p2) ?_ | refine AL.d (AOp.call rfl rfl p3) ?_) <;> (first | refine AL.d (AOp.call rfl rfl c1) ?_ | refine AL.d (AOp.call rfl rfl t1) ?_ | refine AL.d (AOp.call rfl rfl t2) ?_ | refine AL.d (AOp.call rfl rfl r1) ?_ | refine AL.d (AOp.call rfl rfl r2) ?_ | refine AL.d (AOp.call rfl rfl j1) ?_ | refine AL.d (AOp.call rfl rfl p1) ?_ | refine AL.d (AOp.call rfl rfl p2) ?_ | refine AL.d (AOp.call rfl rfl p3) ?_) <;> (first | refine AL.d (AOp.call rfl rfl c1) ?_ | refine AL.d (AOp.call rfl rfl t1) ?_ | refine AL.d (AOp.call rfl rfl t2) ?_ | refine AL.d (AOp.call rfl rfl r1) ?_ | refine AL.d (AOp.call rfl rfl r2) ?_ | refine AL.d (AOp.call rfl rfl j1) ?_ | refine AL.d (AOp.call rfl rfl p1) ?_ | refine AL.d (AOp.call rfl rfl p2) ?_ | refine AL.d (AOp.call rfl rfl p3) ?_) <;> refine AL.e ?_ <;> refine AL.nil ?_)
        | (refine AW.region_at 4 ?_ <;> refine AL.e ?_ <;> refine AL.d AOp.ad ?_ <;> refine AL.e ?_ <;> refine AL.nil ?_)
        | refine AW.cond_true rfl ?_
        | refine AW.cond_false rfl ?_
        | refine AW.block ?_
        | refine AW.endblk ?_
        | refine AW.skip ?_
        | refine AW.exit rfl ?_
        | refine AW.label ?_
        | refine AW.j (fun hb => ?_) (fun hb => ?_))
      all_goals try (exfalso; simp only [decide_eq_true_eq, decide_eq_false_iff_not, List.length_map, beq_iff_eq, beq_eq_false_iff_ne, ne_eq] at *; omega)
      all_goals simp only [beq_iff_eq, beq_eq_false_iff_ne, ne_eq] at *
      all_goals clear c1 t1 t2 r1 r2 j1 p1 p2 p3 ih
      all_goals first
        | exact AW.again_keep (l.length - (i + 1)) [0, 3, 4] (by omega) ⟨i + 1, plusP (plusP out [1]) (raisedP (timeL x.Body []) 1), hlt, rfl, rfl, rfl, plusP_ok ho1 w1, by omega, by omega, by rw [he, if_pos (by assumption)]⟩
        | exact AW.again_keep (l.length - (i + 1)) [0, 3, 4] (by omega) ⟨i + 1, plusP (plusP out [1]) (raisedP (timeL x.Body []) x.N.toNat), hlt, rfl, rfl, rfl, plusP_ok ho1 w2, by omega, by omega, by rw [he, if_neg (by assumption), if_pos (by assumption)]⟩
        | exact AW.again_keep (l.length - (i + 1)) [0, 3, 4] (by omega) ⟨i + 1, plusP (plusP out [1]) (joinP max (timeL x.Body []) (timeL x.Else [])), hlt, rfl, rfl, rfl, plusP_ok ho1 w3, by omega, by omega, by rw [he, if_neg (by assumption), if_neg (by assumption), if_pos (by assumption)]⟩
        | exact AW.again_keep (l.length - (i + 1)) [0, 3, 4] (by omega) ⟨i + 1, plusP out [1], hlt, rfl, rfl, rfl, ho1, by omega, by omega, by rw [he, if_neg (by assumption), if_neg (by assumption), if_neg (by assumption)]⟩
    · rw [List.drop_eq_nil_of_le (by omega), timeL] at he
      repeat' (first
        | refine AW.seq ?_
        | (refine AW.region_at 3 ?_ <;> refine AL.e ?_ <;> refine AL.e ?_ <;> refine AL.d AOp.ln ?_ <;> refine AL.e ?_ <;> refine AL.nil ?_)
        | (refine AW.region_at 14 ?_ <;> refine AL.e ?_ <;> refine AL.e ?_ <;> refine AL.nil ?_)
        | refine AW.cond_true rfl ?_
        | refine AW.cond_false rfl ?_
        | refine AW.block ?_
        | refine AW.endblk ?_
        | refine AW.skip ?_
        | refine AW.exit rfl ?_
        | refine AW.label ?_
        | refine AW.j (fun hb => ?_) (fun hb => ?_))
      all_goals first
        | (exfalso; simp only [decide_eq_true_eq, decide_eq_false_iff_not, List.length_map] at *; omega)
        | exact AW.retv rfl ⟨by rw [he], rfl⟩
        | exact AW.donev rfl ⟨by rw [he], rfl⟩
end Go.Proofs.YtdedkpfbfklgbaaGreat
namespace Go.Proofs.YtdedkpfbfklgbaaGreat
open Go.RowKit Go.SX
set_option maxRecDepth 100000
set_option maxHeartbeats 4000000
set_option linter.unusedVariables false
set_option linter.unusedSimpArgs false

theorem Fit.mono {F R : Nat} {sig sig' : ByteArray → Option Nat} {s : GStmt} (h : Fit F R sig s) (hs : ∀ k a, sig k = some a → sig' k = some a) : Fit F R sig' s := { h with
  name := fun hu => let ⟨a, ha⟩ := h.name hu; ⟨a, hs _ _ ha⟩
  store := fun hu => hs _ _ (h.store hu)
  frm := fun hu => by
    obtain ⟨a, ha⟩ := h.name (use_name h.kind (.inr hu))
    rw [hs _ _ ha, hs _ _ ((h.frm hu).trans ha)]
  lit := fun hu => by
    obtain ⟨h1, h2⟩ := h.lit hu
    refine ⟨h1, ?_⟩
    split
    · rename_i hk; rw [if_pos hk] at h2; exact h2
    · rename_i hk; rw [if_neg hk] at h2; exact ⟨h2.1, hs _ _ h2.2⟩ }
theorem SFit.mono {F R : Nat} {sig sig' : ByteArray → Option Nat} (hs : ∀ k a, sig k = some a → sig' k = some a) {s : GStmt} (h : SFit F R sig s) : SFit F R sig' s := by
  induction h with
  | mk h hb he ihb ihe => exact .mk (h.mono hs) ihb ihe
theorem Ext.sig {a b : Chk} (h : Ext a b) (hb : b.bad = false) : ∀ k n, sigS a.A a.S k = some n → sigS b.A b.S k = some n := by
  intro k n hk
  unfold sigS at hk ⊢
  rw [h.A]
  cases hA : lookA a.A k with
  | some x => rw [hA] at hk; exact hk
  | none =>
    rw [hA] at hk
    simp only at hk ⊢
    cases hS : lookA a.S k with
    | none => rw [hS] at hk; cases hk
    | some x => rw [hS] at hk; rw [h.look hb k x hS]; exact hk
theorem enter_ok (st : Chk) (s : GStmt) (level : Int) : Ext st (st.enter s level) ∧ ((st.enter s level).bad = false → 0 ≤ s.Kind ∧ s.Kind < 15) := by
  refine ⟨(⟨rfl, rfl, id, id, fun _ _ _ h => h⟩ : Ext st { st with cnt := st.cnt + 1 }).trans (ext_need _ _), fun h => ?_⟩
  have := need_ok h
  simp only [Bool.and_eq_true, decide_eq_true_eq] at this
  exact this.1.1
mutual
theorem stmt_ok : ∀ (s : GStmt) (level : Int) (st : Chk), Ext st (stmtP s level st) ∧ ((stmtP s level st).bad = false → SFit st.c.Flags.toNat st.c.Regs.toNat (sigS (stmtP s level st).A (stmtP s level st).S) s)
  | ⟨k, f, g, r, n, nm, fr, lit, regs, body, els⟩, level, st => by
    rw [stmtP]
    try simp only
    have h1 := enter_ok st ⟨k, f, g, r, n, nm, fr, lit, regs, body, els⟩ level
    generalize st.enter ⟨k, f, g, r, n, nm, fr, lit, regs, body, els⟩ level = s1 at h1 ⊢
    by_cases hb : s1.bad = true
    · rw [if_pos hb]; exact ⟨h1.1, fun h => by rw [hb] at h; cases h⟩
    · rw [if_neg hb]
      have hb' : s1.bad = false := by simpa using hb
      have h2 := flds_ok s1 ⟨k, f, g, r, n, nm, fr, lit, regs, body, els⟩
      generalize hs2 : s1.flds ⟨k, f, g, r, n, nm, fr, lit, regs, body, els⟩ = s2 at h2 ⊢
      have h3 := list_ok body (level + 1) s2
      have x2 := h1.1.trans h2.1
      by_cases hp : (listP body (level + 1) s2).2 = true
      · rw [if_pos hp]
        refine ⟨x2.trans h3.1, fun h => ?_⟩
        rw [(h3.2 h).1] at hp; cases hp
      · rw [if_neg hp]
        have h4 := list_ok els (level + 1) (listP body (level + 1) s2).1
        have x3 := x2.trans h3.1
        refine ⟨x3.trans h4.1, fun h => ?_⟩
        have b3 := h4.1.bad h
        have b2 := h3.1.bad b3
        have hc1 : s1.c = st.c := h1.1.c
        have hc2 : s2.c = st.c := x2.c
        have hc3 : (listP body (level + 1) s2).1.c = st.c := x3.c
        have g1 := h2.2 b2 (h1.2 hb')
        have g2 := (h3.2 b3).2
        have g3 := (h4.2 h).2
        rw [hc1] at g1
        rw [hc2] at g2
        rw [hc3] at g3
        exact .mk (g1.mono ((h3.1.trans h4.1).sig h)) (fun x hx => (g2 x hx).mono (h4.1.sig h)) g3
theorem list_ok : ∀ (l : List GStmt) (level : Int) (st : Chk), Ext st (listP l level st).1 ∧ ((listP l level st).1.bad = false → (listP l level st).2 = false ∧ ∀ x ∈ l, SFit st.c.Flags.toNat st.c.Regs.toNat (sigS (listP l level st).1.A (listP l level st).1.S) x)
  | [], level, st => by rw [listP]; exact ⟨Ext.refl st, fun _ => ⟨rfl, by simp⟩⟩
  | x :: l, level, st => by
    have h1 := stmt_ok x level st
    rw [listP]
    try simp only
    generalize stmtP x level st = s1 at h1 ⊢
    by_cases hb : s1.bad = true
    · rw [if_pos hb]; exact ⟨h1.1, fun h => by simp only at h; rw [hb] at h; cases h⟩
    · rw [if_neg hb]
      have h2 := list_ok l level s1
      refine ⟨h1.1.trans h2.1, fun h => ⟨(h2.2 h).1, fun y hy => ?_⟩⟩
      have hc : s1.c = st.c := h1.1.c
      rcases List.mem_cons.1 hy with rfl | hy
      · exact (h1.2 (by simpa using hb)).mono (h2.1.sig h)
      · have := (h2.2 h).2 y hy
        rw [hc] at this; exact this
end
theorem body_ok : ∀ (l : List GStmt) (st : Chk), Ext st (bodyP l st) ∧ ((bodyP l st).bad = false → ∀ x ∈ l, SFit st.c.Flags.toNat st.c.Regs.toNat (sigS (bodyP l st).A (bodyP l st).S) x)
  | [], st => ⟨Ext.refl st, fun _ x h => by cases h⟩
  | x :: l, st => by
    rw [bodyP]
    by_cases hb : st.bad = true
    · rw [if_pos hb]; exact ⟨Ext.refl st, fun h => by rw [hb] at h; cases h⟩
    · rw [if_neg hb]
      have h1 := stmt_ok x 1 st
      have h2 := body_ok l (stmtP x 1 st)
      refine ⟨h1.1.trans h2.1, fun h y hy => ?_⟩
      have hc : (stmtP x 1 st).c = st.c := h1.1.c
      rcases List.mem_cons.1 hy with rfl | hy
      · exact (h1.2 (h2.1.bad h)).mono (h2.1.sig h)
      · have := h2.2 h y hy
        rw [hc] at this; exact this
/-- The arrays. -/
structure Arrs (l : List GSym) (st : Chk) : Prop where
  nodup : (l.map (·.Name)).Nodup
  look : ∀ a ∈ l, lookA st.A a.Name = some a.Arity
  only : ∀ k n, lookA st.A k = some n → ∃ a ∈ l, a.Name = k ∧ a.Arity = n
  ar : ∀ a ∈ l, 0 ≤ a.Arity ∧ a.Arity ≤ 12
theorem arrs_ok : ∀ (l pre : List GSym) (st : Chk) (g : MG), (st.bad = false → Arrs pre st) → (arrsP l st g).1.c = st.c ∧ (arrsP l st g).1.S = st.S ∧ ((arrsP l st g).1.bad = false → st.bad = false ∧ Arrs (pre ++ l) (arrsP l st g).1)
  | [], pre, st, g, h => ⟨rfl, rfl, fun hb => ⟨hb, by rw [List.append_nil]; exact h hb⟩⟩
  | a :: l, pre, st, g, h => by
    rw [arrsP]
    have ih := arrs_ok l (pre ++ [a]) (st.arr a) (gsetA st.A g a.Name) (fun hb => by
      have hn := need_ok hb
      have hb0 : st.bad = false := (ext_need st _).bad hb
      simp only [Bool.and_eq_true, decide_eq_true_eq, Bool.not_eq_true', Option.isSome_eq_false_iff, Option.isNone_iff_eq_none] at hn
      obtain ⟨h1, h2, h3, h4⟩ := h hb0
      have hnew : a.Name ∉ pre.map (·.Name) := fun hm => by
        obtain ⟨b, hb, e⟩ := List.mem_map.1 hm
        have := h2 b hb
        rw [e, hn.1.1.1] at this; cases this
      refine ⟨?_, fun b hb => ?_, fun k n hk => ?_, fun b hb => ?_⟩
      · rw [List.map_append, List.nodup_append]
        exact ⟨h1, by simp, fun x hx y hy e => by simp at hy; subst hy; subst e; exact hnew hx⟩
      · show lookA (setA st.A a.Name a.Arity) b.Name = _
        rw [look_setA]
        rcases List.mem_append.1 hb with hb | hb
        · have hne : ¬ b.Name = a.Name := fun e => hnew (e ▸ List.mem_map_of_mem hb)
          rw [if_neg hne]; exact h2 b hb
        · simp at hb; subst hb; rw [if_pos rfl]
      · have hk' : lookA (setA st.A a.Name a.Arity) k = some n := hk
        rw [look_setA] at hk'
        by_cases e : k = a.Name
        · rw [if_pos e] at hk'; cases hk'; exact ⟨a, by simp, e.symm, rfl⟩
        · rw [if_neg e] at hk'
          obtain ⟨b, hb, h5⟩ := h3 k n hk'
          exact ⟨b, List.mem_append_left _ hb, h5⟩
      · rcases List.mem_append.1 hb with hb | hb
        · exact h4 b hb
        · simp at hb; subst hb; exact ⟨hn.1.2, hn.2⟩)
    refine ⟨ih.1, ih.2.1, fun hb => ?_⟩
    obtain ⟨k1, k2⟩ := ih.2.2 hb
    rw [List.append_assoc] at k2
    exact ⟨(ext_need st _).bad k1, k2⟩
theorem chk_ok {c : GCode} (hb : (checkedP c).bad = false) : ChkOk c := by
  obtain ⟨q1, q2, q3⟩ := arrs_ok c.Arrays [] (chk0 c) ⟨[], 0⟩ (fun _ => ⟨by simp, by simp, (fun k n h => by cases h), by simp⟩)
  obtain ⟨p1, p2⟩ := body_ok c.Body (arrsP c.Arrays (chk0 c) ⟨[], 0⟩).1
  have hb1 := p1.bad hb
  obtain ⟨r1, r2, r3, r4, r5⟩ := q3 hb1
  have h0 := need_ok r1
  simp only [Bool.and_eq_true, decide_eq_true_eq] at h0
  have hc0 : (chk0 c).c = c := rfl
  have hA : (checkedP c).A = (arrsP c.Arrays (chk0 c) ⟨[], 0⟩).1.A := p1.A
  have hinv : Inv (checkedP c) := p1.inv ⟨by rw [q2]; simp [chk0, Chk.need], by rw [q2]; simp [chk0, Chk.need], by rw [q2]; simp [chk0, Chk.need]⟩
  rw [List.nil_append] at r2 r3 r4 r5
  exact {
    flags := ⟨h0.1.1.1.1, h0.1.1.1.2⟩
    regs := ⟨h0.1.1.2, h0.1.2⟩
    keys := hinv.1
    arrs := r2
    apart := fun a ha hm => by have := hinv.2.1 _ hm; rw [hA, r3 a ha] at this; cases this
    look := fun a ha => by rw [hA]; exact r3 a ha
    only := fun k n h => by rw [hA] at h; exact r4 k n h
    ar := r5
    sar := hinv.2.2 hb
    body := by
      have := p2 hb
      rw [q1, hc0] at this
      exact this }
end Go.Proofs.YtdedkpfbfklgbaaGreat
namespace Go.Proofs.YtdedkpfbfklgbaaGreat
open Go.RowKit Go.SX
set_option maxRecDepth 100000
set_option maxHeartbeats 4000000
set_option linter.unusedVariables false
set_option linter.unusedSimpArgs false

def RunPost (c : GCode) (s : GStr) (G : List Bool) (fuel : Int) : AEnd → AH → Prop := fun x _ => ∃ b n g e, RunR c s G fuel b n g e ∧ x = .ret (.tup [.bool b, .int .i64 n, .int .i64 g, .int .i64 e])
/-- The slots that are looked at further on. -/
def runAF (c : GCode) (s : GStr) (G : List Bool) (fuel : Int) (b r1 r2 r3 r4 mb : Nat) : AF := [(2, bools G), (3, .int .i64 fuel), (4, .at c.av), (5, .at s.av), (8, .ref r1 0), (9, .ref r2 0), (10, .ref r3 0), (11, .ref r4 0), (12, .ref b 0), (15, .ref mb 0)]
def sigOf (c : GCode) (k : ByteArray) : Option Nat := match lookA (checkedP c).A k with | some a => some a.toNat | none => (lookA (checkedP c).S k).map Int.toNat
theorem perm_three (a b c : AH) : (a ++ b ++ c).Perm (c ++ (a ++ b)) := List.perm_append_comm
theorem run_t8 (c : GCode) (s : GStr) (G : List Bool) (fuel : Int) (hc : c.Ok) (hok : RunOk c s fuel) (hck : ChkOk c) (b ba bs r1 r2 r3 r4 : Nat) (gA : MG) (B : Blk)
    (hm : MFit c.Flags.toNat c.Regs.toNat (sigOf c) ⟨s.Size, G, fuel⟩ B (m0 c s)) (Fr : Rg) (w0 : World) :
    AW (CofD Tryz.prog Tryz.f8 179 Fr (reg []) w0 (RunPost c s G fuel)) [] [.c (fst1 (sndN 8 (bodyOf Tryz.f8))), .c (sndN 9 (bodyOf Tryz.f8))] (runAF c s G fuel b r1 r2 r3 r4 B.mb) ((checkedP c).ah b ba bs gA ++ resAH r1 r2 r3 r4 false 0 0 0 ++ (m0 c s).ah ⟨s.Size, G, fuel⟩ B) := by
  obtain ⟨_, _, hca, hcb1, hcb2⟩ := hc
  have hlist := mach_list (F := c.Flags.toNat) (R := c.Regs.toNat) (sig := sigOf c) (E := ⟨s.Size, G, fuel⟩) (B := B) (cntL c.Body) c.Body (Nat.le_refl _) (by omega) hcb2 hck.body
  have hall := (hlist (m0 c s) hm).behind ((checkedP c).ah b ba bs gA ++ resAH r1 r2 r3 r4 false 0 0 0)
  -- refine Tri.enterD 179 Tryz.func8 rfl rfl rfl rfl fun Fr w0 => ?_
  repeat' (first
    | refine AW.seq ?_
    | (refine AW.region_at 32 ?_ <;> refine AL.e ?_ <;> refine AL.defer rfl rfl rfl ?_ <;> refine AL.nil ?_)
    | refine AW.cond_true rfl ?_
    | refine AW.cond_false rfl ?_
    | refine AW.block ?_
    | refine AW.endblk ?_
    | refine AW.skip ?_
    | refine AW.exit rfl ?_
    | refine AW.label ?_
    | refine AW.j (fun hb => ?_) (fun hb => ?_))
  refine AW.perm (perm_three _ _ _) ?_
  refine AW.region_at 33 ?_
  refine AL.ev rfl rfl rfl rfl ?_
  refine AL.det (AOp.field_at rfl rfl (by kernel_rfl) rfl) rfl rfl rfl ?_
  refine AL.det (AOp.load_at rfl rfl (by kernel_rfl)) rfl rfl rfl ?_
  refine AL.stepF rfl rfl (AOp.call rfl rfl hall) ?_ ?_
  · rintro v ah' ⟨_, ⟨o, m', hex, hfit, hle, rfl, hend⟩, rfl⟩
    cases o with
    | some e => cases hend
    | none =>
      cases hend
      refine AL.nil ?_
      refine AW.perm (perm_three _ _ _).symm ?_
      refine AW.prune [8, 9, 10, 11, 15] ?_
      refine AW.seq ?_
      have hfl := hfit.flen
      have g0 := flag_get (fl := m'.flags) (x := 0) (by have := hfit.fl; omega)
      refine AW.explore [false, false, false, true, true, true, true] [14, 15, 16, 17] rfl (by kernel_rfl) (by kernel_rfl) (by kernel_rfl) (by kernel_rfl) ?_
      repeat' (first
        | refine AQE.hole rfl rfl ?_
        | refine AQE.ev rfl rfl rfl rfl ?_
        | refine AQE.op rfl (AOp.field_ref (k := 1) (off := 1) rfl (by kernel_rfl)) rfl rfl ?_
        | refine AQE.op rfl (AOp.field_ref (k := 5) (off := 5) rfl (by kernel_rfl)) rfl rfl ?_
        | refine AQE.op rfl (AOp.field_ref (k := 6) (off := 6) rfl (by kernel_rfl)) rfl rfl ?_
        | refine AQE.op rfl (AOp.load_leaf 3 rfl rfl rfl rfl (by kernel_rfl)) rfl rfl ?_
        | refine AQE.op rfl (AOp.index_osl rfl rfl (by omega) (by have := hfit.fl; omega) (by kernel_rfl)) rfl rfl ?_
        | refine AQE.op rfl (AOp.load_cell 4 rfl rfl g0 rfl (by kernel_rfl)) rfl rfl ?_
        | refine AQE.nil ?_)
      refine AX.one (n := 3) 14 rfl ?_
      refine AXS.step (i := 14) rfl rfl rfl (AOp.store_box (i := 0) (g := false) rfl rfl rfl rfl rfl (by kernel_rfl)) ?_ (by rintro _ _ ⟨⟨_, e⟩, _⟩; cases e)
      rintro _ _ ⟨⟨_, e⟩, rfl⟩
      cases e
      dsimp only [List.set_cons_succ, List.set_cons_zero]
      refine AX.one (n := 2) 15 rfl ?_
      refine AXS.step (i := 15) rfl rfl rfl (AOp.store_box (i := 1) (g := false) rfl rfl rfl rfl rfl (by kernel_rfl)) ?_ (by rintro _ _ ⟨⟨_, e⟩, _⟩; cases e)
      rintro _ _ ⟨⟨_, e⟩, rfl⟩
      cases e
      dsimp only [List.set_cons_succ, List.set_cons_zero]
      refine AX.one (n := 1) 16 rfl ?_
      refine AXS.step (i := 16) rfl rfl rfl (AOp.store_box (i := 2) (g := false) rfl rfl rfl rfl rfl (by kernel_rfl)) ?_ (by rintro _ _ ⟨⟨_, e⟩, _⟩; cases e)
      rintro _ _ ⟨⟨_, e⟩, rfl⟩
      cases e
      dsimp only [List.set_cons_succ, List.set_cons_zero]
      refine AX.one (n := 0) 17 rfl ?_
      refine AXS.step (i := 17) rfl rfl rfl (AOp.store_box (i := 3) (g := false) rfl rfl rfl rfl rfl (by kernel_rfl)) ?_ (by rintro _ _ ⟨⟨_, e⟩, _⟩; cases e)
      rintro _ _ ⟨⟨_, e⟩, rfl⟩
      cases e
      dsimp only [List.set_cons_succ, List.set_cons_zero]
      refine AX.done [(8, .ref r1 0), (9, .ref r2 0), (10, .ref r3 0), (11, .ref r4 0)] rfl ?_
      refine AW.retD1 (cs := [.pointer (some ⟨r1, 0, none⟩), .pointer (some ⟨r2, 0, none⟩), .pointer (some ⟨r3, 0, none⟩), .pointer (some ⟨r4, 0, none⟩)]) rfl ((TriD.frame [true, true, true, true] (run_return r1 r2 r3 r4 (flagAt m'.flags 0) m'.steps m'.used 0)).mono ?_)
      rintro u' h ⟨_, ⟨rfl, rfl⟩, rfl⟩
      exact ⟨rfl, _, .cell 0 rfl rfl (by kernel_rfl) (.cell 1 rfl rfl (by kernel_rfl) (.cell 2 rfl rfl (by kernel_rfl) (.cell 3 rfl rfl (by kernel_rfl) .nil))), _, _, _, _, .ok hok hex, rfl⟩
  · rintro v ah' ⟨_, ⟨o, m', hex, hfit, hle, rfl, hend⟩, rfl⟩
    cases o with
    | none => cases hend
    | some e =>
      cases hend
      refine APanF.perm (perm_three _ _ _).symm ?_
      refine APanF.of1 (cs := [.pointer (some ⟨r1, 0, none⟩), .pointer (some ⟨r2, 0, none⟩), .pointer (some ⟨r3, 0, none⟩), .pointer (some ⟨r4, 0, none⟩)]) rfl rfl ((TriD.frame [false, false, false, true, true, true, true] (run_panic r1 r2 r3 r4 false 0 0 0 e)).mono ?_)
      rintro u' h ⟨_, ⟨rfl, rfl⟩, rfl⟩
      exact ⟨rfl, _, .cell 0 rfl rfl (by kernel_rfl) (.cell 1 rfl rfl (by kernel_rfl) (.cell 2 rfl rfl (by kernel_rfl) (.cell 3 rfl rfl (by kernel_rfl) .nil))), _, _, _, _, .stop hok hex, rfl⟩
end Go.Proofs.YtdedkpfbfklgbaaGreat
namespace Go.Proofs.YtdedkpfbfklgbaaGreat
open Go.RowKit Go.SX
set_option maxRecDepth 100000
set_option maxHeartbeats 4000000
set_option linter.unusedVariables false
set_option linter.unusedSimpArgs false

theorem idx_spec {α : Type} (p : α → Bool) : ∀ (l : List α) (i : Nat), 0 ≤ idxFrom p l i → ∃ j x, idxFrom p l i = ((i + j : Nat) : Int) ∧ l[j]? = some x ∧ p x = true
  | [], i, h => by simp [idxFrom] at h
  | x :: l, i, h => by
    rw [idxFrom] at h ⊢
    by_cases hp : p x = true
    · rw [if_pos hp]; exact ⟨0, x, by simp, rfl, hp⟩
    · rw [if_neg hp] at h ⊢
      obtain ⟨j, y, h1, h2, h3⟩ := idx_spec p l (i + 1) h
      exact ⟨j + 1, y, by rw [h1]; omega, by simpa using h2, h3⟩
theorem find_rel {s : GStr} {k : ByteArray} {ar : Int} (h : 0 ≤ findI s k ar) : ∃ r, s.Rels[(findI s k ar).toNat]? = some r ∧ r.Name = k ∧ r.Arity = ar ∧ findI s k ar < s.Rels.length := by
  obtain ⟨j, x, h1, h2, h3⟩ := idx_spec _ _ _ h
  have h4 : findI s k ar = ((0 + j : Nat) : Int) := h1
  simp only [Bool.and_eq_true, decide_eq_true_eq] at h3
  have := (List.getElem?_eq_some_iff.1 h2).1
  exact ⟨x, by rw [h4]; simpa using h2, h3.1, h3.2, by rw [h4]; omega⟩
theorem rels_mem {n : Int} {all : List GRel} : ∀ (l : List GRel) (i : Nat), relsGo n all i l = true → ∀ r ∈ l, relB n r = true
  | [], _, _, r, h => by cases h
  | q :: l, i, h, r, hr => by
    simp only [relsGo, Bool.and_eq_true] at h
    rcases List.mem_cons.1 hr with rfl | hr
    · exact h.1.1
    · exact rels_mem l (i + 1) h.2 r hr
theorem valid_rel {s : GStr} (hv : validStr s = true) : 1 ≤ s.Size ∧ s.Size ≤ 64 ∧ ∀ r ∈ s.Rels, relB s.Size r = true := by
  simp only [validStr, Bool.and_eq_true, decide_eq_true_eq] at hv
  exact ⟨hv.1.1.1, hv.1.1.2, rels_mem _ _ hv.2⟩
theorem rel_power {n : Int} (h1 : 1 ≤ n) (h2 : n ≤ 64) {r : GRel} (h : relB n r = true) : (powerR n r.Arity).2 = 0 ∧ 0 ≤ r.Arity ∧ r.Arity ≤ 12 := by
  simp only [relB, Bool.and_eq_true, decide_eq_true_eq] at h
  refine ⟨?_, h.1.1.1.2, h.1.1.2⟩
  unfold powerR
  rw [if_neg (by omega), if_neg (by omega)]
theorem power_val {n k : Int} (h : (powerR n k).2 = 0) : (powerR n k).1 = n ^ k.toNat ∧ n ^ k.toNat ≤ 4096 ∧ 0 ≤ n ^ k.toNat := by
  obtain ⟨g1, g2, g3, g4, g5⟩ := powerR_ok h
  have e := powGo_eq g1 k.toNat 1 (by omega) (by omega) g5
  rw [Int.one_mul] at e
  refine ⟨?_, e.2, Int.pow_nonneg (by omega)⟩
  unfold powerR at h ⊢
  rw [if_neg (by omega)] at h ⊢
  rw [if_neg (by omega)]
  exact e.1
theorem tup_mem {n ar : Int} : ∀ (l : List (List Int)) (p : Option (List Int)), tupGo n ar p l = true → ∀ t ∈ l, (t.length : Int) = ar ∧ elemsB n t = true
  | [], p, h, t, ht => by cases ht
  | q :: l, p, h, t, ht => by
    rw [tupGo_cons] at h
    simp only [Bool.and_eq_true, decide_eq_true_eq] at h
    rcases List.mem_cons.1 ht with rfl | ht
    · exact ⟨h.1.1.1, h.1.1.2⟩
    · exact tup_mem l _ h.2 t ht
theorem rankGo_bd {n : Int} (hn : 1 ≤ n) : ∀ (l : List Int) (r : Int) (i : Nat), (∀ x ∈ l, 0 ≤ x ∧ x < n) → 0 ≤ r → r < n ^ i → 0 ≤ rankGo n l r ∧ rankGo n l r < n ^ (i + l.length)
  | [], r, i, _, h0, h1 => ⟨h0, by simpa [rankGo] using h1⟩
  | x :: l, r, i, hl, h0, h1 => by
    have hb := hl x (by simp)
    have h2 : 0 ≤ r * n := Int.mul_nonneg h0 (by omega)
    have h3 : r * n + n ≤ n ^ (i + 1) := by
      rw [Int.pow_succ]
      have := Int.mul_le_mul_of_nonneg_right (show r + 1 ≤ n ^ i by omega) (show 0 ≤ n by omega)
      rw [Int.add_mul] at this; omega
    have := rankGo_bd hn l (r * n + x) (i + 1) (fun y hy => hl y (by simp [hy])) (by omega) (by omega)
    rw [rankGo, show i + (x :: l).length = i + 1 + l.length by simp; omega]
    exact this
theorem rank_bd {n : Int} {r : GRel} (h1 : 1 ≤ n) (h2 : n ≤ 64) (h : relB n r = true) {t : List Int} (ht : t ∈ r.Tuples) : 0 ≤ (rankR n t).1 ∧ (rankR n t).1 < n ^ r.Arity.toNat := by
  have hp := rel_power h1 h2 h
  simp only [relB, Bool.and_eq_true, decide_eq_true_eq] at h
  obtain ⟨g1, g2⟩ := tup_mem _ _ h.2 t ht
  have g3 := rankGo_bd h1 t 0 0 (elems_mem g2) (by omega) (by simp)
  have g4 : rankR n t = (rankGo n t 0, 0) := by
    unfold rankR
    rw [g1, if_pos hp.1, if_pos g2]
  rw [g4]
  rw [Nat.zero_add, show t.length = r.Arity.toNat by omega] at g3
  exact g3
theorem tabGo_len (n : Int) : ∀ (l : List (List Int)) (xs : List Bool), (tabGo n l xs).length = xs.length
  | [], xs => rfl
  | t :: l, xs => by rw [tabGo, tabGo_len n l]; simp

theorem setA_new {α : Type} : ∀ {A : List (ByteArray × α)} {k : ByteArray} {v : α}, k ∉ A.map (·.1) → setA A k v = A ++ [(k, v)]
  | [], k, v, _ => rfl
  | (k', w) :: A, k, v, h => by
    simp only [List.map_cons, List.mem_cons, not_or] at h
    rw [setA, if_neg h.1, setA_new h.2]; rfl
def Blk.add (B : Blk) (k : ByteArray) (nb : Nat) (g : MG) : Blk := { B with names := B.names ++ [k], bk := fun x => if x = k then nb else B.bk x, gl := g }
theorem ah_new (E : Env) (B : Blk) (m : MS) (X : AH) {k : ByteArray} (hk : k ∉ B.names) (nb : Nat) (xs : List Bool) (n : Nat) (hn : n = xs.length) (ys : List AV) (hys : ys = xs.map bav) :
    (Own.row nb ys :: Own.map B.lb (mset (kvW oslv (relA B m)) (.str k) (.osl nb n n)) (gset (kvW oslv (relA B m)) B.gl (.str k)) :: (X ++ (Own.box B.mb (m.box E B) :: .row B.fb (m.flags.map bav) :: .row B.rb (m.regs.map iav) :: .map B.ub runKV B.gu :: B.names.map fun k => .row (B.bk k) ((m.rels k).map bav)))).Perm
      (X ++ ({ m with rels := upd m.rels k xs } : MS).ah E (B.add k nb (gset (kvW oslv (relA B m)) B.gl (.str k)))) := by
  subst hys
  have e1 : mset (kvW oslv (relA B m)) (.str k) (.osl nb n n) = kvW oslv (relA (B.add k nb (gset (kvW oslv (relA B m)) B.gl (.str k))) { m with rels := upd m.rels k xs }) := by
    have : mset (kvW oslv (relA B m)) (.str k) (oslv (nb, n)) = kvW oslv (setA (relA B m) k (nb, n)) := mset_kvW _
    refine this.trans ?_
    rw [setA_new (by unfold relA; simpa using hk)]
    congr 1
    unfold relA Blk.add
    simp only [List.map_append, List.map_cons, List.map_nil, upd_same, if_pos, hn]
    congr 1
    refine List.map_congr_left fun a ha => ?_
    have hak : a ≠ k := fun e => hk (e ▸ ha)
    simp [upd_ne _ _ hak, hak]
  have e2 : (B.add k nb (gset (kvW oslv (relA B m)) B.gl (.str k))).names.map (fun a => Own.row ((B.add k nb (gset (kvW oslv (relA B m)) B.gl (.str k))).bk a) ((upd m.rels k xs a).map bav)) = (B.names.map fun k => Own.row (B.bk k) ((m.rels k).map bav)) ++ [Own.row nb (xs.map bav)] := by
    unfold Blk.add
    simp only [List.map_append, List.map_cons, List.map_nil, upd_same, if_pos]
    congr 1
    refine List.map_congr_left fun a ha => ?_
    have hak : a ≠ k := fun e => hk (e ▸ ha)
    simp [upd_ne _ _ hak, hak]
  have e3 : ({ m with rels := upd m.rels k xs } : MS).ah E (B.add k nb (gset (kvW oslv (relA B m)) B.gl (.str k))) = Own.box B.mb (m.box E B) :: .row B.fb (m.flags.map bav) :: .row B.rb (m.regs.map iav) :: .map B.lb (mset (kvW oslv (relA B m)) (.str k) (.osl nb n n)) (gset (kvW oslv (relA B m)) B.gl (.str k)) :: .map B.ub runKV B.gu :: ((B.names.map fun k => Own.row (B.bk k) ((m.rels k).map bav)) ++ [Own.row nb (xs.map bav)]) := by
    rw [← e2, e1]; rfl
  rw [e3]
  generalize Own.row nb (xs.map bav) = rw
  generalize Own.map B.lb (mset (kvW oslv (relA B m)) (.str k) (.osl nb n n)) (gset (kvW oslv (relA B m)) B.gl (.str k)) = mp
  generalize (B.names.map fun k => Own.row (B.bk k) ((m.rels k).map bav)) = Rs
  generalize Own.box B.mb (m.box E B) = x1
  generalize Own.row B.fb (m.flags.map bav) = x2
  generalize Own.row B.rb (m.regs.map iav) = x3
  generalize Own.map B.ub runKV B.gu = x4
  refine (List.perm_append_singleton rw (mp :: (X ++ (x1 :: x2 :: x3 :: x4 :: Rs)))).symm.trans ?_
  refine (List.Perm.append_right [rw] (show (mp :: (X ++ (x1 :: x2 :: x3 :: x4 :: Rs))).Perm ((X ++ [x1, x2, x3]) ++ mp :: (x4 :: Rs)) from ?_)).trans ?_
  · have := (List.perm_middle (a := mp) (l₁ := X ++ [x1, x2, x3]) (l₂ := x4 :: Rs)).symm
    simpa using this
  · simp
end Go.Proofs.YtdedkpfbfklgbaaGreat
namespace Go.Proofs.YtdedkpfbfklgbaaGreat
open Go.RowKit Go.SX
set_option maxRecDepth 100000
set_option maxHeartbeats 4000000
set_option linter.unusedVariables false
set_option linter.unusedSimpArgs false

def symR (s : GStr) (st : Chk) (k : ByteArray) : List Bool := match lookA st.S k with | some a => tableR s k a | none => []
def arrR (s : GStr) (st : Chk) : List GSym → ByteArray → List Bool
  | [] => symR s st
  | a :: l => upd (arrR s st l) a.Name (List.replicate (powerR s.Size a.Arity).1.toNat false)
def msr (c : GCode) (rels : ByteArray → List Bool) : MS := ⟨List.replicate c.Flags.toNat false, List.replicate c.Regs.toNat 0, rels, 0, 0⟩
theorem arrR_mem {s : GStr} {st : Chk} : ∀ {l : List GSym}, (l.map (·.Name)).Nodup → ∀ a ∈ l, arrR s st l a.Name = List.replicate (powerR s.Size a.Arity).1.toNat false
  | [], _, a, h => by cases h
  | b :: l, hn, a, h => by
    simp only [List.map_cons, List.nodup_cons] at hn
    rw [arrR]
    rcases List.mem_cons.1 h with rfl | h
    · rw [upd_same]
    · rw [upd_ne, arrR_mem hn.2 a h]
      intro e
      exact hn.1 (e ▸ List.mem_map_of_mem h)
theorem arrR_not {s : GStr} {st : Chk} {k : ByteArray} : ∀ {l : List GSym}, k ∉ l.map (·.Name) → arrR s st l k = symR s st k
  | [], _ => rfl
  | b :: l, h => by
    simp only [List.map_cons, List.mem_cons, not_or] at h
    rw [arrR, upd_ne _ _ h.1, arrR_not h.2]
theorem arrR_all {c : GCode} {s : GStr} (hck : ChkOk c) {l : List GSym} (hl : l.Perm c.Arrays) : arrR s (checkedP c) l = initR s (checkedP c) := by
  funext k
  have hnd : (l.map (·.Name)).Nodup := ((hl.map (·.Name)).nodup_iff).2 hck.arrs
  by_cases h : k ∈ l.map (·.Name)
  · obtain ⟨a, ha, rfl⟩ := List.mem_map.1 h
    rw [arrR_mem hnd a ha, initR, hck.look a (hl.mem_iff.1 ha)]
  · rw [arrR_not h, initR, symR]
    cases hA : lookA (checkedP c).A k with
    | none => rfl
    | some n =>
      obtain ⟨a, ha, rfl, _⟩ := hck.only k n hA
      exact (h (List.mem_map_of_mem (hl.mem_iff.2 ha))).elim
theorem sym_mem {A : List (ByteArray × Int)} {k : ByteArray} {n : Int} (h : lookA A k = some n) : (k, n) ∈ A := by
  induction A with
  | nil => cases h
  | cons p A ih =>
    obtain ⟨k', w⟩ := p
    simp only [lookA] at h
    by_cases e : k = k'
    · rw [if_pos e] at h; cases h; subst e; simp
    · rw [if_neg e] at h; exact List.mem_cons_of_mem _ (ih h)
theorem m0_fit {c : GCode} {s : GStr} {G : List Bool} {fuel : Int} (hG : G.length ≤ 4611686018427387904) (hok : RunOk c s fuel) (hck : ChkOk c) (B : Blk) (hnd : B.names.Nodup) (hnm : ∀ k, k ∈ (checkedP c).S.map (·.1) ∨ k ∈ c.Arrays.map (·.Name) → k ∈ B.names) :
    MFit c.Flags.toNat c.Regs.toNat (sigOf c) ⟨s.Size, G, fuel⟩ B (m0 c s) := by
  obtain ⟨v1, v2, v3⟩ := valid_rel hok.valid
  have hfl := hck.flags
  have hrg := hck.regs
  exact {
    n := ⟨v1, v2⟩
    fuel := hok.fuel
    glen := hG
    flen := by simp [m0]
    fl := by omega
    rlen := by simp [m0]
    rl := by omega
    regs := fun x hx => by simp only [m0, List.mem_replicate] at hx; rw [hx.2]; exact ⟨by omega, v1⟩
    used := ⟨by simp [m0], by simp [m0]⟩
    steps := ⟨by simp [m0], hok.fuel.1⟩
    nodup := hnd
    sig := fun k a h => by
      unfold sigOf at h
      show k ∈ B.names ∧ ((initR s (checkedP c) k).length : Int) = s.Size ^ a ∧ s.Size ^ a ≤ 4096
      unfold initR
      cases hA : lookA (checkedP c).A k with
      | some ar =>
        rw [hA] at h
        simp only [Option.some.injEq] at h
        subst h
        obtain ⟨x, hx, rfl, rfl⟩ := hck.only k ar hA
        have hp := power_val (hok.size x hx)
        refine ⟨hnm _ (.inr (List.mem_map_of_mem hx)), ?_, hp.2.1⟩
        simp only [List.length_replicate]
        rw [hp.1]; omega
      | none =>
        rw [hA] at h
        simp only at h
        cases hS : lookA (checkedP c).S k with
        | none => rw [hS] at h; cases h
        | some ar =>
          rw [hS] at h
          simp only [Option.map_some, Option.some.injEq] at h
          subst h
          have hm := sym_mem hS
          obtain ⟨r, hr, hr1, hr2, _⟩ := find_rel (hok.found _ hm)
          have hrb := v3 r (List.mem_of_getElem? hr)
          have hp := power_val (rel_power v1 v2 hrb).1
          have hr2 : r.Arity = ar := hr2
          rw [hr2] at hp
          refine ⟨hnm _ (.inl (List.mem_map_of_mem hm)), ?_, hp.2.1⟩
          simp only [tableR, hr]
          rw [tabGo_len, List.length_replicate, hr2, hp.1]
          omega }
theorem run_t7 (c : GCode) (s : GStr) (G : List Bool) (fuel : Int) (hc : c.Ok) (hG : G.length ≤ 4611686018427387904) (hbad : (checkedP c).bad = false) (hval : validStr s = true) (hfound : ∀ p ∈ (checkedP c).S, 0 ≤ findI s p.1 p.2) (hf : 0 ≤ fuel ∧ fuel ≤ 10000000) (hck : ChkOk c) (b ba bs r1 r2 r3 r4 : Nat) (gA : MG) (B : Blk)
    (hnd : B.names.Nodup) (hnm : ∀ k, k ∈ B.names ↔ k ∈ (checkedP c).S.map (·.1)) (Fr : Rg) (w0 : World) :
    AW (CofD Tryz.prog Tryz.f8 179 Fr (reg []) w0 (RunPost c s G fuel)) [] [.c (fst1 (fst1 (sndN 7 (bodyOf Tryz.f8)))), .c (sndN 1 (fst1 (sndN 7 (bodyOf Tryz.f8)))), .c (sndN 8 (bodyOf Tryz.f8))] (runAF c s G fuel b r1 r2 r3 r4 B.mb) ((checkedP c).ah b ba bs gA ++ resAH r1 r2 r3 r4 false 0 0 0 ++ (msr c (symR s (checkedP c))).ah ⟨s.Size, G, fuel⟩ B) := by
  have hca := hc.2.2.1
  have hal : c.Arrays.length ≤ 4611686018427387904 := by have := hca.1; omega
  -- refine Tri.enterD 179 Tryz.func8 rfl rfl rfl rfl fun Fr w0 => ?_
  repeat' (first
    | refine AW.seq ?_
    | (refine AW.region_at 24 ?_ <;> (first | refine AL.d AOp.fa ?_ | refine AL.d (AOp.fr 2) ?_) <;> refine AL.d AOp.la ?_ <;> refine AL.d AOp.ln ?_ <;> refine AL.e ?_ <;> refine AL.nil ?_)
    | refine AW.cond_true rfl ?_
    | refine AW.cond_false rfl ?_
    | refine AW.block ?_
    | refine AW.endblk ?_
    | refine AW.skip ?_
    | refine AW.exit rfl ?_
    | refine AW.label ?_
    | refine AW.j (fun hb => ?_) (fun hb => ?_))
  refine AW.prune [2, 3, 4, 5, 8, 9, 10, 11, 12, 15, 135, 136, 137] (AW.loop (fun m af h => ∃ (i : Nat) (B' : Blk), i ≤ c.Arrays.length ∧ m = c.Arrays.length - i ∧ af = runAF c s G fuel b r1 r2 r3 r4 B.mb ++ [(135, .sl (c.Arrays.map GSym.av)), (136, .int .i64 (c.Arrays.map GSym.av).length), (137, .int .i64 i)] ∧ h = (checkedP c).ah b ba bs gA ++ resAH r1 r2 r3 r4 false 0 0 0 ++ (msr c (arrR s (checkedP c) (c.Arrays.take i).reverse)).ah ⟨s.Size, G, fuel⟩ B' ∧ B'.mb = B.mb ∧ B'.names.Nodup ∧ (∀ k, k ∈ B'.names ↔ k ∈ (checkedP c).S.map (·.1) ∨ k ∈ (c.Arrays.take i).map (·.Name)) ∧ ∀ a ∈ c.Arrays.take i, (powerR s.Size a.Arity).2 = 0) c.Arrays.length ⟨0, B, Nat.zero_le _, rfl, rfl, rfl, rfl, hnd, by simpa using hnm, by simp⟩ ?_)
  rintro m af h ⟨i, B', hi, rfl, rfl, rfl, hmb, hnd', hnm', hsz⟩
  refine AW.seq ?_
  by_cases hlt : i < c.Arrays.length
  · obtain ⟨x, hx⟩ := get_lt hlt
    have hx' : (c.Arrays.map GSym.av)[((i : Nat) : Int).toNat]? = some x.av := map_get hx
    have hxm := List.mem_of_getElem? hx
    have hpw := shape_Power s.Size x.Arity
    repeat' (first
      | refine AW.seq ?_
      | (refine AW.region_at 25 ?_ <;> refine AL.e ?_ <;> refine AL.nil ?_)
      | (refine AW.region_at 26 ?_ <;> refine AL.d (AOp.index_sl rfl rfl (by omega) hx' (by kernel_rfl) rfl) ?_ <;> refine AL.d AOp.la ?_ <;> refine AL.alloc_store (by kernel_rfl) rfl rfl rfl rfl ?_ <;> refine AL.nil ?_)
      | (refine AW.region_at 27 ?_ <;> (first | refine AL.d AOp.fa ?_ | refine AL.d (AOp.fr 0) ?_) <;> refine AL.d AOp.la ?_ <;> (first | refine AL.d AOp.fa ?_ | refine AL.d (AOp.fr 1) ?_) <;> refine AL.d AOp.la ?_ <;> refine AL.d (AOp.call rfl rfl (hpw.pure _)) ?_ <;> refine AL.e ?_ <;> refine AL.e ?_ <;> refine AL.e ?_ <;> refine AL.e ?_ <;> refine AL.e ?_ <;> refine AL.nil ?_)
      | (refine AW.region_at 28 ?_ <;> refine AL.e ?_ <;> refine AL.e ?_ <;> refine AL.nil ?_)
      | refine AW.cond_true rfl ?_
      | refine AW.cond_false rfl ?_
      | refine AW.block ?_
      | refine AW.endblk ?_
      | refine AW.skip ?_
      | refine AW.exit rfl ?_
      | refine AW.label ?_
      | refine AW.j (fun hb => ?_) (fun hb => ?_))
    all_goals try (exfalso; simp only [decide_eq_true_eq, decide_eq_false_iff_not, List.length_map] at *; omega)
    · repeat' (first
        | refine AW.seq ?_
        | (refine AW.region_at 29 ?_ <;> (first | refine AL.sl 0 ?_ | refine AL.sl 1 ?_ | refine AL.sl 2 ?_ | refine AL.sl 3 ?_ | refine AL.sl 4 ?_ | refine AL.sl 5 ?_ | refine AL.sl 6 ?_) <;> (first | refine AL.sl 0 ?_ | refine AL.sl 1 ?_ | refine AL.sl 2 ?_ | refine AL.sl 3 ?_ | refine AL.sl 4 ?_ | refine AL.sl 5 ?_ | refine AL.sl 6 ?_) <;> (first | refine AL.sl 0 ?_ | refine AL.sl 1 ?_ | refine AL.sl 2 ?_ | refine AL.sl 3 ?_ | refine AL.sl 4 ?_ | refine AL.sl 5 ?_ | refine AL.sl 6 ?_) <;> (first | refine AL.sl 0 ?_ | refine AL.sl 1 ?_ | refine AL.sl 2 ?_ | refine AL.sl 3 ?_ | refine AL.sl 4 ?_ | refine AL.sl 5 ?_ | refine AL.sl 6 ?_) <;> refine AL.nil ?_)
        | refine AW.cond_true rfl ?_
        | refine AW.cond_false rfl ?_
        | refine AW.block ?_
        | refine AW.endblk ?_
        | refine AW.skip ?_
        | refine AW.exit rfl ?_
        | refine AW.label ?_
        | refine AW.j (fun hb => ?_) (fun hb => ?_))
      exact AW.retD0 (.cell 3 rfl rfl (by kernel_rfl) (.cell 4 rfl rfl (by kernel_rfl) (.cell 5 rfl rfl (by kernel_rfl) (.cell 6 rfl rfl (by kernel_rfl) .nil)))) ⟨_, _, _, _, .size hbad hval hfound hf x hxm (by simpa using hb), rfl⟩
    · have hp0 : (powerR s.Size x.Arity).2 = 0 := by simpa using hb
      have hpv := power_val hp0
      have hVx : (some (AV.int .i64 (powerR s.Size x.Arity).1)) = some (AV.int .i64 ((powerR s.Size x.Arity).1.toNat : Nat)) := by rw [Int.toNat_of_nonneg (by rw [hpv.1]; exact hpv.2.2)]
      have hVb : (powerR s.Size x.Arity).1.toNat ≤ 4096 := by rw [hpv.1]; omega
      have htk : c.Arrays.take (i + 1) = c.Arrays.take i ++ [x] := by rw [List.take_add_one, hx]; rfl
      have hnew : x.Name ∉ B'.names := by
        rw [hnm']
        rintro (h | h)
        · exact hck.apart x hxm h
        · have h1 := hck.arrs
          rw [← List.take_append_drop i c.Arrays, drop_cons hx, List.map_append, List.nodup_append] at h1
          exact h1.2.2 _ h _ (by simp) rfl
      refine AW.prune [2, 3, 4, 5, 8, 9, 10, 11, 12, 15, 25, 26, 135, 136, 137] ?_
      have hmbx : (some (AV.ref B.mb 0)) = some (AV.ref B'.mb 0) := by rw [hmb]
      refine AW.explore [false, false, false, false, false, false, false, false, false, false, true] [7, 8] rfl (by kernel_rfl) (by kernel_rfl) (by kernel_rfl) (by kernel_rfl) ?_
      refine AQE.ev rfl (show evalOp _ _ = some (AV.ref B'.mb 0) from hmbx) rfl rfl ?_
      repeat' (first
        | refine AQE.hole rfl rfl ?_
        | refine AQE.ev rfl rfl rfl rfl ?_
        | refine AQE.op rfl (AOp.field_at rfl rfl (by kernel_rfl) rfl) rfl rfl ?_
        | refine AQE.op rfl (AOp.field_ref (k := 3) (off := 3) rfl (by kernel_rfl)) rfl rfl ?_
        | refine AQE.op rfl (AOp.load_at rfl rfl (by kernel_rfl)) rfl rfl ?_
        | refine AQE.op rfl (AOp.load_leaf 7 rfl rfl rfl rfl (by kernel_rfl)) rfl rfl ?_
        | refine AQE.nil ?_)
      refine AX.one (n := 1) 7 rfl ?_
      refine AXS.new (i := 7) rfl rfl rfl (AOp.makeSlice (n := (powerR s.Size x.Arity).1.toNat) (e := 4) (c := .bool false) (z := .bool false) (bytes := 1) hVx hVx (by kernel_rfl) rfl (by omega) (by omega)) (fun nb => ?_)
      dsimp only [List.set_cons_succ, List.set_cons_zero]
      refine AX.one (n := 0) 8 rfl ?_
      refine AXS.step (i := 8) rfl rfl rfl (AOp.mapUpdate (i := 1) (kd := .string) (e := 29) (k := .str x.Name) (v := .osl nb (powerR s.Size x.Arity).1.toNat (powerR s.Size x.Arity).1.toNat) rfl rfl rfl rfl (by kernel_rfl) rfl (keysOK_kvW _ _)) ?_ (by rintro _ _ ⟨⟨_, e⟩, _⟩; cases e)
      rintro _ _ ⟨⟨_, e⟩, rfl⟩
      dsimp only [List.set_cons_succ, List.set_cons_zero]
      refine AX.done [(2, bools G), (3, .int .i64 fuel), (4, .at c.av), (5, .at s.av), (8, .ref r1 0), (9, .ref r2 0), (10, .ref r3 0), (11, .ref r4 0), (12, .ref b 0), (15, .ref B.mb 0), (135, .sl (c.Arrays.map GSym.av)), (136, .int .i64 (c.Arrays.map GSym.av).length), (137, .int .i64 i)] rfl ?_
      refine AW.perm (ah_new ⟨s.Size, G, fuel⟩ B' (msr c (arrR s (checkedP c) (c.Arrays.take i).reverse)) ((checkedP c).ah b ba bs gA ++ resAH r1 r2 r3 r4 false 0 0 0) hnew nb (List.replicate (powerR s.Size x.Arity).1.toNat false) _ (List.length_replicate ..).symm _ (List.map_replicate ..).symm) ?_
      repeat' (first
        | refine AW.seq ?_
        | (refine AW.region_at 31 ?_ <;> refine AL.d AOp.ad ?_ <;> refine AL.e ?_ <;> refine AL.nil ?_)
        | refine AW.cond_true rfl ?_
        | refine AW.cond_false rfl ?_
        | refine AW.block ?_
        | refine AW.endblk ?_
        | refine AW.skip ?_
        | refine AW.exit rfl ?_
        | refine AW.label ?_
        | refine AW.j (fun hb => ?_) (fun hb => ?_))
      refine AW.again_keep (c.Arrays.length - (i + 1)) [2, 3, 4, 5, 8, 9, 10, 11, 12, 15, 135, 136, 137] (by omega) ⟨i + 1, B'.add x.Name nb (gset (kvW oslv (relA B' (msr c (arrR s (checkedP c) (c.Arrays.take i).reverse)))) B'.gl (.str x.Name)), hlt, rfl, rfl, ?_, hmb, ?_, ?_, ?_⟩
      · rw [htk, List.reverse_append]; rfl
      · show (B'.names ++ [x.Name]).Nodup
        rw [List.nodup_append]
        exact ⟨hnd', by simp, fun a ha b hb e => by simp at hb; subst hb; subst e; exact hnew ha⟩
      · intro k
        show k ∈ B'.names ++ [x.Name] ↔ _
        rw [htk, List.map_append, List.mem_append, List.mem_append, hnm', or_assoc]
        rfl
      · intro a ha
        rw [htk] at ha
        rcases List.mem_append.1 ha with h | h
        · exact hsz a h
        · simp at h; subst h; exact hp0
  · have hi2 : i = c.Arrays.length := by omega
    subst hi2
    rw [List.take_length] at hnm' hsz
    repeat' (first
      | refine AW.seq ?_
      | (refine AW.region_at 25 ?_ <;> refine AL.e ?_ <;> refine AL.nil ?_)
      | refine AW.cond_true rfl ?_
      | refine AW.cond_false rfl ?_
      | refine AW.block ?_
      | refine AW.endblk ?_
      | refine AW.skip ?_
      | refine AW.exit rfl ?_
      | refine AW.label ?_
      | refine AW.j (fun hb => ?_) (fun hb => ?_))
    all_goals try (exfalso; simp only [decide_eq_true_eq, decide_eq_false_iff_not, List.length_map] at *; omega)
    have hok : RunOk c s fuel := ⟨hbad, hval, hfound, hf, hsz⟩
    have hm := m0_fit hG hok hck B' hnd' fun k h => (hnm' k).2 h
    have e : msr c (arrR s (checkedP c) c.Arrays.reverse) = m0 c s := by rw [arrR_all hck (List.reverse_perm _)]; rfl
    rw [List.take_length, e]
    have h8 := run_t8 c s G fuel hc hok hck b ba bs r1 r2 r3 r4 gA B' hm Fr w0
    rw [hmb] at h8
    exact AW.prune [2, 3, 4, 5, 8, 9, 10, 11, 12, 15] h8
end Go.Proofs.YtdedkpfbfklgbaaGreat
namespace Go.Proofs.YtdedkpfbfklgbaaGreat
open Go.RowKit Go.SX
set_option maxRecDepth 100000
set_option maxHeartbeats 4000000
set_option linter.unusedVariables false
set_option linter.unusedSimpArgs false

theorem upd_upd (f : ByteArray → List Bool) (k : ByteArray) (xs ys : List Bool) : upd (upd f k xs) k ys = upd f k ys := by
  funext a
  by_cases h : a = k
  · subst h; simp [upd_same]
  · simp [upd_ne _ _ h]
theorem look_mem {A : List (ByteArray × Int)} (hn : (A.map (·.1)).Nodup) {p : ByteArray × Int} (h : p ∈ A) : lookA A p.1 = some p.2 := by
  induction A with
  | nil => cases h
  | cons q A ih =>
    obtain ⟨k', w⟩ := q
    simp only [List.map_cons, List.nodup_cons] at hn
    rw [lookA]
    rcases List.mem_cons.1 h with rfl | h
    · simp
    · have hne : ¬ p.1 = k' := fun e => hn.1 (e ▸ List.mem_map_of_mem h)
      rw [if_neg hne, ih hn.2 h]
theorem look_none {A : List (ByteArray × Int)} {k : ByteArray} (h : k ∉ A.map (·.1)) : lookA A k = none := by
  cases e : lookA A k with
  | none => rfl
  | some n => exact (h (List.mem_map_of_mem (sym_mem e))).elim
theorem run_t6 (c : GCode) (s : GStr) (G : List Bool) (fuel : Int) (hc : c.Ok) (hs : s.Ok) (hG : G.length ≤ 4611686018427387904) (hbad : (checkedP c).bad = false) (hval : validStr s = true) (hfound : ∀ p ∈ (checkedP c).S, 0 ≤ findI s p.1 p.2) (hf : 0 ≤ fuel ∧ fuel ≤ 10000000) (hck : ChkOk c) (b ba bs r1 r2 r3 r4 : Nat) (gA : MG) (B : Blk)
    (hB : B.names = []) (Fr : Rg) (w0 : World) :
    AW (CofD Tryz.prog Tryz.f8 179 Fr (reg []) w0 (RunPost c s G fuel)) [] [.c (fst1 (fst1 (sndN 6 (bodyOf Tryz.f8)))), .c (sndN 1 (fst1 (sndN 6 (bodyOf Tryz.f8)))), .c (sndN 7 (bodyOf Tryz.f8))] (runAF c s G fuel b r1 r2 r3 r4 B.mb) ((checkedP c).ah b ba bs gA ++ resAH r1 r2 r3 r4 false 0 0 0 ++ (msr c fun _ => []).ah ⟨s.Size, G, fuel⟩ B) := by
  obtain ⟨v1, v2, v3⟩ := valid_rel hval
  have hrl : s.Rels.length ≤ 4611686018427387904 := by obtain ⟨_, h2, _⟩ := hs; omega
  have hs3 := hs.2.2
  -- refine Tri.enterD 179 Tryz.func8 rfl rfl rfl rfl fun Fr w0 => ?_
  repeat' (first
    | refine AW.seq ?_
    | (refine AW.region_at 12 ?_ <;> refine AL.e ?_ <;> refine AL.e ?_ <;> (first | refine AL.d AOp.fa ?_ | refine AL.d (AOp.fr 5) ?_) <;> (first | refine AL.d AOp.la ?_ | refine AL.d (AOp.ll 0) ?_ | refine AL.d (AOp.lw 0) ?_ | refine AL.d (AOp.ll 1) ?_ | refine AL.d (AOp.lw 1) ?_ | refine AL.d (AOp.ll 2) ?_ | refine AL.d (AOp.lw 2) ?_ | refine AL.d (AOp.ll 3) ?_ | refine AL.d (AOp.lw 3) ?_ | refine AL.d (AOp.ll 4) ?_ | refine AL.d (AOp.lw 4) ?_ | refine AL.d (AOp.ll 5) ?_ | refine AL.d (AOp.lw 5) ?_ | refine AL.d (AOp.ll 6) ?_ | refine AL.d (AOp.lw 6) ?_) <;> refine AL.range 2 3 .string rfl rfl (by kernel_rfl) rfl fun it => ?_ <;> refine AL.nil ?_)
    | refine AW.cond_true rfl ?_
    | refine AW.cond_false rfl ?_
    | refine AW.block ?_
    | refine AW.endblk ?_
    | refine AW.skip ?_
    | refine AW.exit rfl ?_
    | refine AW.label ?_
    | refine AW.j (fun hb => ?_) (fun hb => ?_))
  refine AW.prune [2, 3, 4, 5, 8, 9, 10, 11, 12, 15, 78] (AW.loop (fun m af h => ∃ (idx : List Nat) (B' : Blk) (rl : ByteArray → List Bool), idx.Nodup ∧ (∀ k ∈ idx, k < (checkedP c).S.length) ∧ m = (checkedP c).S.length - idx.length ∧ af = runAF c s G fuel b r1 r2 r3 r4 B.mb ++ [(78, .ref it 0)] ∧ h = .iter it bs (checkedP c).gS.clk (seenOf (checkedP c).gS idx) :: ((checkedP c).ah b ba bs gA ++ resAH r1 r2 r3 r4 false 0 0 0 ++ (msr c rl).ah ⟨s.Size, G, fuel⟩ B') ∧ B'.mb = B.mb ∧ B'.names.Nodup ∧ (∀ k, k ∈ B'.names ↔ ∃ j ∈ idx, ∃ p, (checkedP c).S[j]? = some p ∧ p.1 = k) ∧ (∀ k ∈ B'.names, rl k = symR s (checkedP c) k) ∧ ∀ k, k ∉ B'.names → rl k = []) (checkedP c).S.length ⟨[], B, fun _ => [], List.nodup_nil, by simp, by simp, rfl, rfl, rfl, by rw [hB]; exact List.nodup_nil, by rw [hB]; simp, by rw [hB]; simp, fun _ _ => rfl⟩ ?_)
  rintro m af h ⟨idx, B', rl, hnd, hbd, rfl, rfl, rfl, hmb, hnd', hnm', hrl1, hrl2⟩
  refine AW.seq ?_
  have hbd' : ∀ k ∈ idx, k < (kvW iav (checkedP c).S).length := by rw [kvW_length]; exact hbd
  repeat' (first
    | refine AW.seq ?_
    | (refine AW.region_at 13 ?_ <;> refine AL.next 3 0 idx rfl rfl rfl hbd' rfl (fun hall => ?_) (fun k key v hk1 hk2 => ?_) <;> refine AL.e ?_ <;> refine AL.nil ?_)
    | refine AW.cond_true rfl ?_
    | refine AW.cond_false rfl ?_
    | refine AW.block ?_
    | refine AW.endblk ?_
    | refine AW.skip ?_
    | refine AW.exit rfl ?_
    | refine AW.label ?_
    | refine AW.j (fun hb => ?_) (fun hb => ?_))
  · have hall' : ∀ k, k ∈ B'.names ↔ k ∈ (checkedP c).S.map (·.1) := by
      intro k
      rw [hnm']
      constructor
      · rintro ⟨j, _, p, hp, rfl⟩; exact List.mem_map_of_mem (List.mem_of_getElem? hp)
      · intro h
        obtain ⟨p, hp, rfl⟩ := List.mem_map.1 h
        obtain ⟨j, hj⟩ := List.getElem?_of_mem hp
        exact ⟨j, hall j (by rw [kvW_length]; exact (List.getElem?_eq_some_iff.1 hj).1), p, hj, rfl⟩
    have e : rl = symR s (checkedP c) := by
      funext k
      by_cases h : k ∈ B'.names
      · exact hrl1 k h
      · rw [hrl2 k h, symR, look_none (fun h' => h ((hall' k).2 h'))]
    subst e
    refine AW.drop (List.sublist_cons_self _ _) ?_
    have h7 := run_t7 c s G fuel hc hG hbad hval hfound hf hck b ba bs r1 r2 r3 r4 gA B' hnd' hall' Fr w0
    rw [hmb] at h7
    exact AW.prune [2, 3, 4, 5, 8, 9, 10, 11, 12, 15] h7
  obtain ⟨p, hp, rfl, rfl⟩ := kvW_get hk2
  have hpm := List.mem_of_getElem? hp
  have hpl : k < (checkedP c).S.length := (List.getElem?_eq_some_iff.1 hp).1
  have hfi := shape_Find s hrl p.1 p.2
  have hlk := look_mem hck.keys hpm
  obtain ⟨r, hr, hr1, hr2, hr3⟩ := find_rel (hfound p hpm)
  have hr' : (s.Rels.map GRel.av)[(findI s p.1 p.2).toNat]? = some r.av := map_get hr
  have hrm := List.mem_of_getElem? hr
  have hrb := v3 r hrm
  have hro := hs3 r hrm
  have hf0 := hfound p hpm
  have hlen := nodup_bound (checkedP c).S.length (idx ++ [k]) (nodup_snoc hnd hk1) (by intro j hj; rcases List.mem_append.1 hj with h | h; exact hbd j h; simp at h; omega)
  simp only [List.length_append, List.length_singleton] at hlen
  repeat' (first
    | refine AW.seq ?_
    | (refine AW.region_at 14 ?_ <;> refine AL.d (AOp.entry (i := 3) (j := 0) (k := k) rfl rfl rfl hk2) ?_ <;> refine AL.e ?_ <;> refine AL.e ?_ <;> refine AL.nil ?_)
    | refine AW.cond_true rfl ?_
    | refine AW.cond_false rfl ?_
    | refine AW.block ?_
    | refine AW.endblk ?_
    | refine AW.skip ?_
    | refine AW.exit rfl ?_
    | refine AW.label ?_
    | refine AW.j (fun hb => ?_) (fun hb => ?_))
  refine AW.prune [2, 3, 4, 5, 8, 9, 10, 11, 12, 15, 16, 78] ?_
  refine AW.explore [] [13, 14] rfl (by kernel_rfl) (by kernel_rfl) (by kernel_rfl) (by kernel_rfl) ?_
  repeat' (first
    | refine AQE.hole rfl rfl ?_
    | refine AQE.ev rfl rfl rfl rfl ?_
    | refine AQE.op rfl (AOp.field_at rfl rfl (by kernel_rfl) rfl) rfl rfl ?_
    | refine AQE.op rfl (AOp.field_ref (k := 2) (off := 5) rfl (by kernel_rfl)) rfl rfl ?_
    | refine AQE.op rfl (AOp.load_at rfl rfl (by kernel_rfl)) rfl rfl ?_
    | refine AQE.op rfl (AOp.load_leaf 1 rfl rfl rfl rfl (by kernel_rfl)) rfl rfl ?_
    | refine AQE.op rfl (AOp.lookS_hit (g := iav) (ok := false) 3 3 hlk rfl rfl rfl (by kernel_rfl)) rfl rfl ?_
    | refine AQE.op rfl (AOp.call rfl rfl (hfi.pure _)) rfl rfl ?_
    | refine AQE.op rfl (AOp.index_sl rfl rfl (by omega) hr' (by kernel_rfl) rfl) rfl rfl ?_
    | refine AQE.nil ?_)
  refine AX.one (n := 1) 13 rfl ?_
  refine AXS.new (i := 13) rfl rfl rfl (AOp.alloc (t := 56) (z := .st [.str ⟨#[]⟩, .int .i64 0, .sl []]) (by kernel_rfl) rfl) (fun br => ?_)
  dsimp only [List.set_cons_succ, List.set_cons_zero]
  refine AX.one (n := 0) 14 rfl ?_
  refine AXS.step (i := 14) rfl rfl rfl (AOp.store_box (i := 0) (g := true) (v := r.av) (c' := r.av) rfl rfl rfl rfl rfl (by kernel_rfl)) ?_ (by rintro _ _ ⟨⟨_, e⟩, _⟩; cases e)
  rintro _ _ ⟨⟨_, e⟩, rfl⟩
  dsimp only [List.set_cons_succ, List.set_cons_zero]
  refine AX.done [(2, bools G), (3, .int .i64 fuel), (4, .at c.av), (5, .at s.av), (8, .ref r1 0), (9, .ref r2 0), (10, .ref r3 0), (11, .ref r4 0), (12, .ref b 0), (15, .ref B.mb 0), (16, .str p.1), (17, .ref br 0), (78, .ref it 0)] rfl ?_
  refine AW.freeze 0 17 (b := br) (c := r.av) rfl rfl ?_
  refine AW.frame_eq (ah' := Own.iter it bs (checkedP c).gS.clk (seenOf (checkedP c).gS (idx ++ [k])) :: ((checkedP c).ah b ba bs gA ++ resAH r1 r2 r3 r4 false 0 0 0 ++ (msr c rl).ah ⟨s.Size, G, fuel⟩ B')) rfl rfl ?_
  clear e
  have hpw := shape_Power s.Size r.Arity
  have hp0 := rel_power v1 v2 hrb
  have hpv := power_val hp0.1
  have hVx : (some (AV.int .i64 (powerR s.Size r.Arity).1)) = some (AV.int .i64 ((powerR s.Size r.Arity).1.toNat : Nat)) := by rw [Int.toNat_of_nonneg (by rw [hpv.1]; exact hpv.2.2)]
  have hVb : (powerR s.Size r.Arity).1.toNat ≤ 4096 := by rw [hpv.1]; omega
  have hnew : p.1 ∉ B'.names := by
    rw [hnm']
    rintro ⟨j, hj, q, hq, e⟩
    have hjl : j < (checkedP c).S.length := (List.getElem?_eq_some_iff.1 hq).1
    have : j = k := (List.getElem?_inj (l := (checkedP c).S.map (·.1)) (by simpa using hjl) hck.keys).1 (by simp [hq, hp, e])
    subst this
    exact hk1 hj
  repeat' (first
    | refine AW.seq ?_
    | (refine AW.region_at 16 ?_ <;> (first | refine AL.d AOp.fa ?_ | refine AL.d (AOp.fr 0) ?_) <;> refine AL.d AOp.la ?_ <;> (first | refine AL.d AOp.fa ?_ | refine AL.d (AOp.fr 1) ?_) <;> refine AL.d AOp.la ?_ <;> refine AL.d (AOp.call rfl rfl (hpw.pure _)) ?_ <;> refine AL.e ?_ <;> refine AL.e ?_ <;> refine AL.e ?_ <;> refine AL.e ?_ <;> refine AL.e ?_ <;> refine AL.nil ?_)
    | refine AW.cond_true rfl ?_
    | refine AW.cond_false rfl ?_
    | refine AW.block ?_
    | refine AW.endblk ?_
    | refine AW.skip ?_
    | refine AW.exit rfl ?_
    | refine AW.label ?_
    | refine AW.j (fun hb => ?_) (fun hb => ?_))
  refine AW.prune [2, 3, 4, 5, 8, 9, 10, 11, 12, 15, 16, 17, 18, 78] ?_
  have hmbx : (some (AV.ref B.mb 0)) = some (AV.ref B'.mb 0) := by rw [hmb]
  refine AW.explore [false, false, false, false, false, false, false, false, false, false, false, true] [6, 7] rfl (by kernel_rfl) (by kernel_rfl) (by kernel_rfl) (by kernel_rfl) ?_
  refine AQE.ev rfl (show evalOp _ _ = some (AV.ref B'.mb 0) from hmbx) rfl rfl ?_
  repeat' (first
    | refine AQE.hole rfl rfl ?_
    | refine AQE.ev rfl rfl rfl rfl ?_
    | refine AQE.op rfl (AOp.field_ref (k := 3) (off := 3) rfl (by kernel_rfl)) rfl rfl ?_
    | refine AQE.op rfl (AOp.load_leaf 8 rfl rfl rfl rfl (by kernel_rfl)) rfl rfl ?_
    | refine AQE.nil ?_)
  refine AX.one (n := 1) 6 rfl ?_
  refine AXS.new (i := 6) rfl rfl rfl (AOp.makeSlice (n := (powerR s.Size r.Arity).1.toNat) (e := 4) (c := .bool false) (z := .bool false) (bytes := 1) hVx hVx (by kernel_rfl) rfl (by omega) (by omega)) (fun nb => ?_)
  dsimp only [List.set_cons_succ, List.set_cons_zero]
  refine AX.one (n := 0) 7 rfl ?_
  refine AXS.step (i := 7) rfl rfl rfl (AOp.mapUpdate (i := 1) (kd := .string) (e := 29) (k := .str p.1) (v := .osl nb (powerR s.Size r.Arity).1.toNat (powerR s.Size r.Arity).1.toNat) rfl rfl rfl rfl (by kernel_rfl) rfl (keysOK_kvW _ _)) ?_ (by rintro _ _ ⟨⟨_, e⟩, _⟩; cases e)
  rintro _ _ ⟨⟨_, e⟩, rfl⟩
  dsimp only [List.set_cons_succ, List.set_cons_zero]
  refine AX.done [(2, bools G), (3, .int .i64 fuel), (4, .at c.av), (5, .at s.av), (8, .ref r1 0), (9, .ref r2 0), (10, .ref r3 0), (11, .ref r4 0), (12, .ref b 0), (15, .ref B.mb 0), (16, .str p.1), (17, .at r.av), (78, .ref it 0)] rfl ?_
  clear e
  refine AW.perm (ah_new ⟨s.Size, G, fuel⟩ B' (msr c rl) (Own.iter it bs (checkedP c).gS.clk (seenOf (checkedP c).gS (idx ++ [k])) :: ((checkedP c).ah b ba bs gA ++ resAH r1 r2 r3 r4 false 0 0 0)) hnew nb (List.replicate (powerR s.Size r.Arity).1.toNat false) _ (List.length_replicate ..).symm _ (List.map_replicate ..).symm) ?_
  generalize hB2 : B'.add p.1 nb _ = B2
  have hmb2 : B2.mb = B.mb := by rw [← hB2]; exact hmb
  have hnm2 : B2.names = B'.names ++ [p.1] := by rw [← hB2]; rfl
  have hnd2 : B2.names.Nodup := by
    rw [hnm2, List.nodup_append]
    exact ⟨hnd', by simp, fun a ha b hb e => by simp at hb; subst hb; subst e; exact hnew ha⟩
  clear hB2
  have hin : p.1 ∈ B2.names := by rw [hnm2]; simp
  have htl : r.Tuples.length ≤ 4611686018427387904 := by have := hro.2.2.1; omega
  have htup : ∀ t ∈ r.Tuples, t.length ≤ 4611686018427387904 := fun t ht => by have := (hro.2.2.2 t ht).1; omega
  repeat' (first
    | refine AW.seq ?_
    | (refine AW.region_at 18 ?_ <;> (first | refine AL.d AOp.fa ?_ | refine AL.d (AOp.fr 2) ?_) <;> refine AL.d AOp.la ?_ <;> refine AL.d AOp.ln ?_ <;> refine AL.e ?_ <;> refine AL.nil ?_)
    | refine AW.cond_true rfl ?_
    | refine AW.cond_false rfl ?_
    | refine AW.block ?_
    | refine AW.endblk ?_
    | refine AW.skip ?_
    | refine AW.exit rfl ?_
    | refine AW.label ?_
    | refine AW.j (fun hb => ?_) (fun hb => ?_))
  refine AW.prune [2, 3, 4, 5, 8, 9, 10, 11, 12, 15, 16, 78, 112, 113, 114] (AW.loop (fun m af h => ∃ (j : Nat) (cur : List Bool), j ≤ r.Tuples.length ∧ m = r.Tuples.length - j ∧ af = [(2, bools G), (3, .int .i64 fuel), (4, .at c.av), (5, .at s.av), (8, .ref r1 0), (9, .ref r2 0), (10, .ref r3 0), (11, .ref r4 0), (12, .ref b 0), (15, .ref B.mb 0), (16, .str p.1), (78, .ref it 0), (112, .sl (r.Tuples.map ints)), (113, .int .i64 (r.Tuples.map ints).length), (114, .int .i64 j)] ∧ h = Own.iter it bs (checkedP c).gS.clk (seenOf (checkedP c).gS (idx ++ [k])) :: ((checkedP c).ah b ba bs gA ++ resAH r1 r2 r3 r4 false 0 0 0) ++ (msr c (upd rl p.1 cur)).ah ⟨s.Size, G, fuel⟩ B2 ∧ cur.length = (powerR s.Size r.Arity).1.toNat ∧ tabGo s.Size r.Tuples (List.replicate (powerR s.Size r.Arity).1.toNat false) = tabGo s.Size (r.Tuples.drop j) cur) r.Tuples.length ⟨0, _, Nat.zero_le _, rfl, rfl, rfl, List.length_replicate .., rfl⟩ ?_)
  rintro m af h ⟨j, cur, hj, rfl, rfl, rfl, hcl, he⟩
  refine AW.seq ?_
  by_cases hlt : j < r.Tuples.length
  · obtain ⟨t, ht⟩ := get_lt hlt
    have ht' : (r.Tuples.map ints)[((j : Nat) : Int).toNat]? = some (ints t) := map_get ht
    have htm := List.mem_of_getElem? ht
    rw [drop_cons ht, tabGo] at he
    have hrk := shape_Rank s.Size t (htup t htm)
    have hbd2 := rank_bd v1 v2 hrb htm
    have hcl2 : ((upd rl p.1 cur p.1).length : Int) = s.Size ^ r.Arity.toNat := by rw [upd_same, hcl, hpv.1, Int.toNat_of_nonneg hpv.2.2]
    obtain ⟨jr, hjr, hrow⟩ := row_at ⟨s.Size, G, fuel⟩ B2 (msr c (upd rl p.1 cur)) hin
    have hlk2 := look_rel B2 (msr c (upd rl p.1 cur)) hin
    have hrow' : (Own.iter it bs (checkedP c).gS.clk (seenOf (checkedP c).gS (idx ++ [k])) :: ((checkedP c).ah b ba bs gA ++ resAH r1 r2 r3 r4 false 0 0 0) ++ (msr c (upd rl p.1 cur)).ah ⟨s.Size, G, fuel⟩ B2)[jr + 13]? = some (.row (B2.bk p.1) ((upd rl p.1 cur p.1).map bav)) := hrow
    rw [hmb2.symm]
    repeat' (first
      | refine AW.seq ?_
      | (refine AW.region_at 19 ?_ <;> refine AL.e ?_ <;> refine AL.nil ?_)
      | (refine AW.region_at 20 ?_ <;> (first | refine AL.d (AOp.index_sl rfl rfl (by omega) ht' (by kernel_rfl) rfl) ?_ | (refine AL.d (AOp.index_osl rfl rfl (by omega) (by show (rankR s.Size t).1 < ((upd rl p.1 cur p.1).length : Int); omega) (by kernel_rfl)) ?_)) <;> (first | refine AL.d AOp.la ?_ | refine AL.d (AOp.ll 0) ?_ | refine AL.d (AOp.lw 0) ?_ | refine AL.d (AOp.ll 1) ?_ | refine AL.d (AOp.lw 1) ?_ | refine AL.d (AOp.ll 2) ?_ | refine AL.d (AOp.lw 2) ?_ | refine AL.d (AOp.ll 3) ?_ | refine AL.d (AOp.lw 3) ?_ | refine AL.d (AOp.ll 4) ?_ | refine AL.d (AOp.lw 4) ?_ | refine AL.d (AOp.ll 5) ?_ | refine AL.d (AOp.lw 5) ?_ | refine AL.d (AOp.ll 6) ?_ | refine AL.d (AOp.lw 6) ?_ | refine AL.d (AOp.ll 7) ?_ | refine AL.d (AOp.lw 7) ?_ | refine AL.d (AOp.ll 8) ?_ | refine AL.d (AOp.lw 8) ?_) <;> refine AL.e ?_ <;> refine AL.nil ?_)
      | (refine AW.region_at 21 ?_ <;> (first | refine AL.d AOp.fa ?_ | refine AL.d (AOp.fr 0) ?_) <;> (first | refine AL.d AOp.la ?_ | refine AL.d (AOp.ll 0) ?_ | refine AL.d (AOp.lw 0) ?_ | refine AL.d (AOp.ll 1) ?_ | refine AL.d (AOp.lw 1) ?_ | refine AL.d (AOp.ll 2) ?_ | refine AL.d (AOp.lw 2) ?_ | refine AL.d (AOp.ll 3) ?_ | refine AL.d (AOp.lw 3) ?_ | refine AL.d (AOp.ll 4) ?_ | refine AL.d (AOp.lw 4) ?_ | refine AL.d (AOp.ll 5) ?_ | refine AL.d (AOp.lw 5) ?_ | refine AL.d (AOp.ll 6) ?_ | refine AL.d (AOp.lw 6) ?_ | refine AL.d (AOp.ll 7) ?_ | refine AL.d (AOp.lw 7) ?_ | refine AL.d (AOp.ll 8) ?_ | refine AL.d (AOp.lw 8) ?_) <;> refine AL.e ?_ <;> refine AL.d (AOp.call rfl rfl (hrk.pure _)) ?_ <;> refine AL.e ?_ <;> refine AL.e ?_ <;> refine AL.e ?_ <;> refine AL.e ?_ <;> refine AL.e ?_ <;> refine AL.nil ?_)
      | (refine AW.region_at 22 ?_ <;> refine AL.e ?_ <;> refine AL.e ?_ <;> (first | refine AL.d AOp.fa ?_ | refine AL.d (AOp.fr 3) ?_) <;> (first | refine AL.d AOp.la ?_ | refine AL.d (AOp.ll 0) ?_ | refine AL.d (AOp.lw 0) ?_ | refine AL.d (AOp.ll 1) ?_ | refine AL.d (AOp.lw 1) ?_ | refine AL.d (AOp.ll 2) ?_ | refine AL.d (AOp.lw 2) ?_ | refine AL.d (AOp.ll 3) ?_ | refine AL.d (AOp.lw 3) ?_ | refine AL.d (AOp.ll 4) ?_ | refine AL.d (AOp.lw 4) ?_ | refine AL.d (AOp.ll 5) ?_ | refine AL.d (AOp.lw 5) ?_ | refine AL.d (AOp.ll 6) ?_ | refine AL.d (AOp.lw 6) ?_ | refine AL.d (AOp.ll 7) ?_ | refine AL.d (AOp.lw 7) ?_ | refine AL.d (AOp.ll 8) ?_ | refine AL.d (AOp.lw 8) ?_) <;> refine AL.e ?_ <;> refine AL.d (AOp.lookS_hit (g := oslv) (ok := false) 11 29 hlk2 rfl rfl rfl (by kernel_rfl)) ?_ <;> refine AL.e ?_ <;> (first | refine AL.d (AOp.index_sl rfl rfl (by omega) ht' (by kernel_rfl) rfl) ?_ | (refine AL.d (AOp.index_osl rfl rfl (by omega) (by show (rankR s.Size t).1 < ((upd rl p.1 cur p.1).length : Int); omega) (by kernel_rfl)) ?_)) <;> (first | (refine AL.store_cell (jr + 13) rfl rfl hrow' (by simp; omega) rfl rfl (by kernel_rfl) ?_) | refine AL.sl 0 ?_ | refine AL.sl 1 ?_ | refine AL.sl 2 ?_ | refine AL.sl 3 ?_ | refine AL.sl 4 ?_ | refine AL.sl 5 ?_ | refine AL.sl 6 ?_ | refine AL.sl 7 ?_ | refine AL.sl 8 ?_) <;> refine AL.nil ?_)
      | refine AW.cond_true rfl ?_
      | refine AW.cond_false rfl ?_
      | refine AW.block ?_
      | refine AW.endblk ?_
      | refine AW.skip ?_
      | refine AW.exit rfl ?_
      | refine AW.label ?_
      | refine AW.j (fun hb => ?_) (fun hb => ?_))
    all_goals try (exfalso; simp only [decide_eq_true_eq, decide_eq_false_iff_not, List.length_map] at *; omega)
    have hset : (Own.iter it bs (checkedP c).gS.clk (seenOf (checkedP c).gS (idx ++ [k])) :: ((checkedP c).ah b ba bs gA ++ resAH r1 r2 r3 r4 false 0 0 0) ++ (msr c (upd rl p.1 cur)).ah ⟨s.Size, G, fuel⟩ B2).set (jr + 13) (.row (B2.bk p.1) (((upd rl p.1 cur p.1).map bav).set (rankR s.Size t).1.toNat (.bool true))) = Own.iter it bs (checkedP c).gS.clk (seenOf (checkedP c).gS (idx ++ [k])) :: ((checkedP c).ah b ba bs gA ++ resAH r1 r2 r3 r4 false 0 0 0) ++ (msr c (upd rl p.1 (cur.set (rankR s.Size t).1.toNat true))).ah ⟨s.Size, G, fuel⟩ B2 := by
      have h1 := ah_setrow ⟨s.Size, G, fuel⟩ B2 (msr c (upd rl p.1 cur)) hnd2 hjr ((upd rl p.1 cur p.1).set (rankR s.Size t).1.toNat true) (by simp [msr])
      rw [List.map_set] at h1
      have h2 : ({ msr c (upd rl p.1 cur) with rels := upd (msr c (upd rl p.1 cur)).rels p.1 ((upd rl p.1 cur p.1).set (rankR s.Size t).1.toNat true) } : MS) = msr c (upd rl p.1 (cur.set (rankR s.Size t).1.toNat true)) := by
        simp only [msr, upd_upd, upd_same]
      rw [h2] at h1
      rw [← h1]
      rfl
    refine AW.frame_eq rfl hset ?_
    repeat' (first
      | refine AW.seq ?_
      | (refine AW.region_at 23 ?_ <;> refine AL.d AOp.ad ?_ <;> refine AL.e ?_ <;> refine AL.nil ?_)
      | refine AW.cond_true rfl ?_
      | refine AW.cond_false rfl ?_
      | refine AW.block ?_
      | refine AW.endblk ?_
      | refine AW.skip ?_
      | refine AW.exit rfl ?_
      | refine AW.label ?_
      | refine AW.j (fun hb => ?_) (fun hb => ?_))
    exact AW.again_keep (r.Tuples.length - (j + 1)) [2, 3, 4, 5, 8, 9, 10, 11, 12, 15, 16, 78, 112, 113, 114] (by omega) ⟨j + 1, _, hlt, rfl, rfl, rfl, by rw [List.length_set]; exact hcl, he⟩
  · rw [List.drop_eq_nil_of_le (by omega), tabGo] at he
    repeat' (first
      | refine AW.seq ?_
      | (refine AW.region_at 19 ?_ <;> refine AL.e ?_ <;> refine AL.nil ?_)
      | refine AW.cond_true rfl ?_
      | refine AW.cond_false rfl ?_
      | refine AW.block ?_
      | refine AW.endblk ?_
      | refine AW.skip ?_
      | refine AW.exit rfl ?_
      | refine AW.label ?_
      | refine AW.j (fun hb => ?_) (fun hb => ?_))
    all_goals try (exfalso; simp only [decide_eq_true_eq, decide_eq_false_iff_not, List.length_map] at *; omega)
    have htab : cur = symR s (checkedP c) p.1 := by
      simp only [symR, hlk, tableR, hr]
      exact he.symm
    refine AW.again_keep ((checkedP c).S.length - (idx ++ [k]).length) [2, 3, 4, 5, 8, 9, 10, 11, 12, 15, 78] (by simp only [List.length_append, List.length_singleton]; omega) ⟨idx ++ [k], B2, upd rl p.1 cur, nodup_snoc hnd hk1, ?_, rfl, rfl, rfl, hmb2, hnd2, ?_, ?_, ?_⟩
    · intro j hj; rcases List.mem_append.1 hj with h | h; exact hbd j h; simp at h; omega
    · intro x
      rw [hnm2, List.mem_append, hnm']
      constructor
      · rintro (⟨j, hj, q, hq, e⟩ | h)
        · exact ⟨j, List.mem_append_left _ hj, q, hq, e⟩
        · simp at h; exact ⟨k, by simp, p, hp, h.symm⟩
      · rintro ⟨j, hj, q, hq, e⟩
        rcases List.mem_append.1 hj with h | h
        · exact .inl ⟨j, h, q, hq, e⟩
        · simp at h; subst h; rw [hp] at hq; cases hq; exact .inr (by simp [e])
    · intro x hx
      by_cases e : x = p.1
      · subst e; rw [upd_same]; exact htab
      · rw [upd_ne _ _ e]
        rw [hnm2] at hx
        exact hrl1 x (by simpa [e] using hx)
    · intro x hx
      rw [hnm2] at hx
      simp only [List.mem_append, List.mem_singleton, not_or] at hx
      rw [upd_ne _ _ hx.2]
      exact hrl2 x hx.1
end Go.Proofs.YtdedkpfbfklgbaaGreat
namespace Go.Proofs.YtdedkpfbfklgbaaGreat
open Go.RowKit Go.SX
set_option maxRecDepth 100000
set_option maxHeartbeats 4000000
set_option linter.unusedVariables false
set_option linter.unusedSimpArgs false

theorem code_Run (c : GCode) (s : GStr) (G : List Bool) (fuel : Int) (hc : c.Ok) (hs : s.Ok) (hG : G.length ≤ 4611686018427387904) (hk : (checkedP c).bad = false → ChkOk c) :
    Tri Tryz.prog 8 [c.av, s.av, bools G, .int .i64 fuel] [] (RunPost c s G fuel) := by
  have hv := shape_Valid s hs
  refine Tri.enterD 179 Tryz.func8 rfl rfl rfl rfl fun Fr w0 => ?_
  repeat' (first
    | refine AW.seq ?_
    | (refine AW.region_at 0 ?_ <;> refine AL.d (AOp.box_ro rfl rfl) ?_ <;> refine AL.d (AOp.box_ro rfl rfl) ?_ <;> (first | refine AL.alloc_z (t := 4) (.bool false) (by kernel_rfl) rfl rfl fun r => ?_ | refine AL.alloc_z (t := 3) (.int .i64 0) (by kernel_rfl) rfl rfl fun r => ?_ | refine AL.alloc_z (t := 35) (.int .i64 0) (by kernel_rfl) rfl rfl fun r => ?_) <;> (first | refine AL.alloc_z (t := 4) (.bool false) (by kernel_rfl) rfl rfl fun r => ?_ | refine AL.alloc_z (t := 3) (.int .i64 0) (by kernel_rfl) rfl rfl fun r => ?_ | refine AL.alloc_z (t := 35) (.int .i64 0) (by kernel_rfl) rfl rfl fun r => ?_) <;> (first | refine AL.alloc_z (t := 4) (.bool false) (by kernel_rfl) rfl rfl fun r => ?_ | refine AL.alloc_z (t := 3) (.int .i64 0) (by kernel_rfl) rfl rfl fun r => ?_ | refine AL.alloc_z (t := 35) (.int .i64 0) (by kernel_rfl) rfl rfl fun r => ?_) <;> (first | refine AL.alloc_z (t := 4) (.bool false) (by kernel_rfl) rfl rfl fun r => ?_ | refine AL.alloc_z (t := 3) (.int .i64 0) (by kernel_rfl) rfl rfl fun r => ?_ | refine AL.alloc_z (t := 35) (.int .i64 0) (by kernel_rfl) rfl rfl fun r => ?_) <;> refine AL.nil ?_)
    | refine AW.cond_true rfl ?_
    | refine AW.cond_false rfl ?_
    | refine AW.block ?_
    | refine AW.endblk ?_
    | refine AW.skip ?_
    | refine AW.exit rfl ?_
    | refine AW.label ?_
    | refine AW.j (fun hb => ?_) (fun hb => ?_))
  rename_i r1 r2 r3
  refine AW.perm (b := resAH r1 r2 r3 r false 0 0 0) (List.reverse_perm (resAH r1 r2 r3 r false 0 0 0)) ?_
  have hchk := (code_checked c hc).behind (resAH r1 r2 r3 r false 0 0 0)
  repeat' (first
    | refine AW.seq ?_
    | (refine AW.region_at 1 ?_ <;> refine AL.d AOp.la ?_ <;> (refine AL.callQ rfl rfl hchk rfl ?_ ?_; rotate_left; rintro _ _ ⟨_, ⟨_, _, _, e, _⟩, _⟩; cases e; rintro _ _ ⟨_, ⟨b, ba, bs, e, rfl⟩, rfl⟩; injection e with e; subst e) <;> refine AL.e ?_ <;> refine AL.nil ?_)
    | refine AW.cond_true rfl ?_
    | refine AW.cond_false rfl ?_
    | refine AW.block ?_
    | refine AW.endblk ?_
    | refine AW.skip ?_
    | refine AW.exit rfl ?_
    | refine AW.label ?_
    | refine AW.j (fun hb => ?_) (fun hb => ?_))
  generalize hgA : (arrsP c.Arrays (chk0 c) ⟨[], 0⟩).2 = gA
  refine AW.prune [2, 3, 4, 5, 8, 9, 10, 11, 12] ?_
  repeat' (first
    | refine AW.seq ?_
    | (refine AW.region_at 2 ?_ <;> refine AL.e ?_ <;> refine AL.e ?_ <;> (first | refine AL.d AOp.fa ?_ | refine AL.d (AOp.fr 7) ?_) <;> (first | refine AL.d AOp.la ?_ | refine AL.d (AOp.ll 0) ?_ | refine AL.d (AOp.lw 0) ?_ | refine AL.d (AOp.ll 1) ?_ | refine AL.d (AOp.lw 1) ?_ | refine AL.d (AOp.ll 2) ?_ | refine AL.d (AOp.lw 2) ?_ | refine AL.d (AOp.ll 3) ?_ | refine AL.d (AOp.lw 3) ?_ | refine AL.d (AOp.ll 4) ?_ | refine AL.d (AOp.lw 4) ?_ | refine AL.d (AOp.ll 5) ?_ | refine AL.d (AOp.lw 5) ?_ | refine AL.d (AOp.ll 6) ?_ | refine AL.d (AOp.lw 6) ?_) <;> refine AL.e ?_ <;> (first | (refine AL.gd ?_; (first | refine AL.d AOp.la ?_ | refine AL.d (AOp.ll 0) ?_ | refine AL.d (AOp.lw 0) ?_ | refine AL.d (AOp.ll 1) ?_ | refine AL.d (AOp.lw 1) ?_ | refine AL.d (AOp.ll 2) ?_ | refine AL.d (AOp.lw 2) ?_ | refine AL.d (AOp.ll 3) ?_ | refine AL.d (AOp.lw 3) ?_ | refine AL.d (AOp.ll 4) ?_ | refine AL.d (AOp.lw 4) ?_ | refine AL.d (AOp.ll 5) ?_ | refine AL.d (AOp.lw 5) ?_ | refine AL.d (AOp.ll 6) ?_ | refine AL.d (AOp.lw 6) ?_)) | refine AL.gs ?_ | refine AL.gu ?_ | (refine AL.gx (fun hb => ?_) (fun hb => ?_) <;> first | (refine AL.gd ?_; (first | refine AL.d AOp.la ?_ | refine AL.d (AOp.ll 0) ?_ | refine AL.d (AOp.lw 0) ?_ | refine AL.d (AOp.ll 1) ?_ | refine AL.d (AOp.lw 1) ?_ | refine AL.d (AOp.ll 2) ?_ | refine AL.d (AOp.lw 2) ?_ | refine AL.d (AOp.ll 3) ?_ | refine AL.d (AOp.lw 3) ?_ | refine AL.d (AOp.ll 4) ?_ | refine AL.d (AOp.lw 4) ?_ | refine AL.d (AOp.ll 5) ?_ | refine AL.d (AOp.lw 5) ?_ | refine AL.d (AOp.ll 6) ?_ | refine AL.d (AOp.lw 6) ?_)) | refine AL.gs ?_)) <;> (first | (refine AL.gd ?_; refine AL.d (AOp.call rfl rfl (hv.pure _)) ?_) | refine AL.gs ?_ | refine AL.gu ?_) <;> (first | (refine AL.gd ?_; refine AL.e ?_) | refine AL.gs ?_ | refine AL.gu ?_) <;> refine AL.e ?_ <;> refine AL.nil ?_)
    | (refine AW.region_at 3 ?_ <;> (first | refine AL.sl 0 ?_ | refine AL.sl 1 ?_ | refine AL.sl 2 ?_ | refine AL.sl 3 ?_ | refine AL.sl 4 ?_ | refine AL.sl 5 ?_ | refine AL.sl 6 ?_) <;> (first | refine AL.sl 0 ?_ | refine AL.sl 1 ?_ | refine AL.sl 2 ?_ | refine AL.sl 3 ?_ | refine AL.sl 4 ?_ | refine AL.sl 5 ?_ | refine AL.sl 6 ?_) <;> (first | refine AL.sl 0 ?_ | refine AL.sl 1 ?_ | refine AL.sl 2 ?_ | refine AL.sl 3 ?_ | refine AL.sl 4 ?_ | refine AL.sl 5 ?_ | refine AL.sl 6 ?_) <;> (first | refine AL.sl 0 ?_ | refine AL.sl 1 ?_ | refine AL.sl 2 ?_ | refine AL.sl 3 ?_ | refine AL.sl 4 ?_ | refine AL.sl 5 ?_ | refine AL.sl 6 ?_) <;> refine AL.nil ?_)
    | refine AW.cond_true rfl ?_
    | refine AW.cond_false rfl ?_
    | refine AW.block ?_
    | refine AW.endblk ?_
    | refine AW.skip ?_
    | refine AW.exit rfl ?_
    | refine AW.label ?_
    | refine AW.j (fun hb => ?_) (fun hb => ?_))
  · exact AW.retD0 (.cell 3 rfl rfl (by kernel_rfl) (.cell 4 rfl rfl (by kernel_rfl) (.cell 5 rfl rfl (by kernel_rfl) (.cell 6 rfl rfl (by kernel_rfl) .nil)))) ⟨_, _, _, _, .form (.inl hb), rfl⟩
  · exact AW.retD0 (.cell 3 rfl rfl (by kernel_rfl) (.cell 4 rfl rfl (by kernel_rfl) (.cell 5 rfl rfl (by kernel_rfl) (.cell 6 rfl rfl (by kernel_rfl) .nil)))) ⟨_, _, _, _, .form (.inr (by simpa using hb)), rfl⟩
  rename_i hbad
  have hval : validStr s = true := by simpa using hb
  clear hb hchk hv
  have hko := hk hbad
  refine AW.prune [2, 3, 4, 5, 8, 9, 10, 11, 12] ?_
  repeat' (first
    | refine AW.seq ?_
    | (refine AW.region_at 4 ?_ <;> refine AL.e ?_ <;> refine AL.e ?_ <;> (first | refine AL.d AOp.fa ?_ | refine AL.d (AOp.fr 5) ?_) <;> (first | refine AL.d AOp.la ?_ | refine AL.d (AOp.ll 0) ?_ | refine AL.d (AOp.lw 0) ?_ | refine AL.d (AOp.ll 1) ?_ | refine AL.d (AOp.lw 1) ?_ | refine AL.d (AOp.ll 2) ?_ | refine AL.d (AOp.lw 2) ?_ | refine AL.d (AOp.ll 3) ?_ | refine AL.d (AOp.lw 3) ?_ | refine AL.d (AOp.ll 4) ?_ | refine AL.d (AOp.lw 4) ?_ | refine AL.d (AOp.ll 5) ?_ | refine AL.d (AOp.lw 5) ?_ | refine AL.d (AOp.ll 6) ?_ | refine AL.d (AOp.lw 6) ?_) <;> refine AL.range 2 3 .string rfl rfl (by kernel_rfl) rfl fun it => ?_ <;> refine AL.nil ?_)
    | refine AW.cond_true rfl ?_
    | refine AW.cond_false rfl ?_
    | refine AW.block ?_
    | refine AW.endblk ?_
    | refine AW.skip ?_
    | refine AW.exit rfl ?_
    | refine AW.label ?_
    | refine AW.j (fun hb => ?_) (fun hb => ?_))
  refine AW.prune [2, 3, 4, 5, 8, 9, 10, 11, 12, 43] (AW.loop (fun m af h => ∃ idx : List Nat, idx.Nodup ∧ (∀ k ∈ idx, k < (checkedP c).S.length) ∧ m = (checkedP c).S.length - idx.length ∧ af = [(2, bools G), (3, .int .i64 fuel), (4, .at c.av), (5, .at s.av), (8, .ref r1 0), (9, .ref r2 0), (10, .ref r3 0), (11, .ref r 0), (12, .ref b 0), (43, .ref it 0)] ∧ h = .iter it bs (checkedP c).gS.clk (seenOf (checkedP c).gS idx) :: ((checkedP c).ah b ba bs gA ++ resAH r1 r2 r3 r false 0 0 0) ∧ ∀ k ∈ idx, ∀ p, (checkedP c).S[k]? = some p → 0 ≤ findI s p.1 p.2) (checkedP c).S.length ⟨[], List.nodup_nil, by simp, by simp, rfl, rfl, by simp⟩ ?_)
  rintro m af h ⟨idx, hnd, hbd, rfl, rfl, rfl, hfind⟩
  refine AW.seq ?_
  have hbd' : ∀ k ∈ idx, k < (kvW iav (checkedP c).S).length := by rw [kvW_length]; exact hbd
  have hrl : s.Rels.length ≤ 4611686018427387904 := by obtain ⟨_, h2, _⟩ := hs; omega
  repeat' (first
    | refine AW.seq ?_
    | (refine AW.region_at 5 ?_ <;> refine AL.next 3 0 idx rfl rfl rfl hbd' rfl (fun hall => ?_) (fun k key v hk1 hk2 => ?_) <;> refine AL.e ?_ <;> refine AL.nil ?_)
    | refine AW.cond_true rfl ?_
    | refine AW.cond_false rfl ?_
    | refine AW.block ?_
    | refine AW.endblk ?_
    | refine AW.skip ?_
    | refine AW.exit rfl ?_
    | refine AW.label ?_
    | refine AW.j (fun hb => ?_) (fun hb => ?_))
  rotate_left
  · obtain ⟨p, hp, rfl, rfl⟩ := kvW_get hk2
    have hpl : k < (checkedP c).S.length := (List.getElem?_eq_some_iff.1 hp).1
    have hfi := shape_Find s hrl p.1 p.2
    have hlen := nodup_bound (checkedP c).S.length (idx ++ [k]) (nodup_snoc hnd hk1) (by intro j hj; rcases List.mem_append.1 hj with h | h; exact hbd j h; simp at h; omega)
    simp only [List.length_append, List.length_singleton] at hlen
    repeat' (first
      | refine AW.seq ?_
      | (refine AW.region_at 6 ?_ <;> refine AL.d (AOp.entry (i := 3) (j := 0) (k := k) rfl rfl rfl hk2) ?_ <;> refine AL.e ?_ <;> refine AL.e ?_ <;> refine AL.e ?_ <;> refine AL.e ?_ <;> refine AL.nil ?_)
      | (refine AW.region_at 7 ?_ <;> (first | refine AL.d AOp.la ?_ | refine AL.d (AOp.ll 0) ?_ | refine AL.d (AOp.lw 0) ?_ | refine AL.d (AOp.ll 1) ?_ | refine AL.d (AOp.lw 1) ?_ | refine AL.d (AOp.ll 2) ?_ | refine AL.d (AOp.lw 2) ?_ | refine AL.d (AOp.ll 3) ?_ | refine AL.d (AOp.lw 3) ?_ | refine AL.d (AOp.ll 4) ?_ | refine AL.d (AOp.lw 4) ?_ | refine AL.d (AOp.ll 5) ?_ | refine AL.d (AOp.lw 5) ?_ | refine AL.d (AOp.ll 6) ?_ | refine AL.d (AOp.lw 6) ?_ | refine AL.d (AOp.ll 7) ?_ | refine AL.d (AOp.lw 7) ?_) <;> refine AL.e ?_ <;> refine AL.e ?_ <;> refine AL.d (AOp.call rfl rfl (hfi.pure _)) ?_ <;> refine AL.e ?_ <;> refine AL.nil ?_)
      | refine AW.cond_true rfl ?_
      | refine AW.cond_false rfl ?_
      | refine AW.block ?_
      | refine AW.endblk ?_
      | refine AW.skip ?_
      | refine AW.exit rfl ?_
      | refine AW.label ?_
      | refine AW.j (fun hb => ?_) (fun hb => ?_))
    · repeat' (first
        | refine AW.seq ?_
        | (refine AW.region_at 8 ?_ <;> (first | refine AL.sl 0 ?_ | refine AL.sl 1 ?_ | refine AL.sl 2 ?_ | refine AL.sl 3 ?_ | refine AL.sl 4 ?_ | refine AL.sl 5 ?_ | refine AL.sl 6 ?_ | refine AL.sl 7 ?_) <;> (first | refine AL.sl 0 ?_ | refine AL.sl 1 ?_ | refine AL.sl 2 ?_ | refine AL.sl 3 ?_ | refine AL.sl 4 ?_ | refine AL.sl 5 ?_ | refine AL.sl 6 ?_ | refine AL.sl 7 ?_) <;> (first | refine AL.sl 0 ?_ | refine AL.sl 1 ?_ | refine AL.sl 2 ?_ | refine AL.sl 3 ?_ | refine AL.sl 4 ?_ | refine AL.sl 5 ?_ | refine AL.sl 6 ?_ | refine AL.sl 7 ?_) <;> (first | refine AL.sl 0 ?_ | refine AL.sl 1 ?_ | refine AL.sl 2 ?_ | refine AL.sl 3 ?_ | refine AL.sl 4 ?_ | refine AL.sl 5 ?_ | refine AL.sl 6 ?_ | refine AL.sl 7 ?_) <;> refine AL.nil ?_)
        | refine AW.cond_true rfl ?_
        | refine AW.cond_false rfl ?_
        | refine AW.block ?_
        | refine AW.endblk ?_
        | refine AW.skip ?_
        | refine AW.exit rfl ?_
        | refine AW.label ?_
        | refine AW.j (fun hb => ?_) (fun hb => ?_))
      exact AW.retD0 (.cell 4 rfl rfl (by kernel_rfl) (.cell 5 rfl rfl (by kernel_rfl) (.cell 6 rfl rfl (by kernel_rfl) (.cell 7 rfl rfl (by kernel_rfl) .nil)))) ⟨_, _, _, _, .name hbad hval p (List.mem_of_getElem? hp) (by simpa using hb), rfl⟩
    · refine AW.again_keep ((checkedP c).S.length - (idx ++ [k]).length) [2, 3, 4, 5, 8, 9, 10, 11, 12, 43] (by simp only [List.length_append, List.length_singleton]; omega) ⟨idx ++ [k], nodup_snoc hnd hk1, ?_, rfl, rfl, rfl, ?_⟩
      · intro j hj; rcases List.mem_append.1 hj with h | h; exact hbd j h; simp at h; omega
      · intro j hj q hq
        rcases List.mem_append.1 hj with h | h
        · exact hfind j h q hq
        · simp at h; subst h; rw [hp] at hq; cases hq; simpa using hb
  have hfound : ∀ p ∈ (checkedP c).S, 0 ≤ findI s p.1 p.2 := by
    intro p hp
    obtain ⟨k, hk⟩ := List.getElem?_of_mem hp
    exact hfind k (hall k (by rw [kvW_length]; exact (List.getElem?_eq_some_iff.1 hk).1)) p hk
  clear hfind hall hbd hbd' hnd
  refine AW.drop (List.sublist_cons_self _ _) ?_
  refine AW.prune [2, 3, 4, 5, 8, 9, 10, 11, 12] ?_
  have hfu : ∀ (P : Prop), (fuel < 0 ∨ fuel > 10000000 → P) → (0 ≤ fuel ∧ fuel ≤ 10000000 → P) → P := fun P h1 h2 => by
    by_cases h : 0 ≤ fuel ∧ fuel ≤ 10000000
    · exact h2 h
    · exact h1 (by omega)
  refine hfu _ (fun hf => ?_) (fun hf => ?_)
  · repeat' (first
      | refine AW.seq ?_
      | (refine AW.region_at 9 ?_ <;> refine AL.e ?_ <;> refine AL.e ?_ <;> refine AL.e ?_ <;> (first | (refine AL.gd ?_; refine AL.e ?_) | refine AL.gs ?_ | refine AL.gu ?_ | (refine AL.gx (fun hb => ?_) (fun hb => ?_) <;> first | (refine AL.gd ?_; refine AL.e ?_) | refine AL.gs ?_)) <;> (first | (refine AL.gd ?_; refine AL.e ?_) | refine AL.gs ?_ | refine AL.gu ?_) <;> refine AL.e ?_ <;> refine AL.nil ?_)
      | (refine AW.region_at 10 ?_ <;> (first | refine AL.sl 0 ?_ | refine AL.sl 1 ?_ | refine AL.sl 2 ?_ | refine AL.sl 3 ?_ | refine AL.sl 4 ?_ | refine AL.sl 5 ?_ | refine AL.sl 6 ?_) <;> (first | refine AL.sl 0 ?_ | refine AL.sl 1 ?_ | refine AL.sl 2 ?_ | refine AL.sl 3 ?_ | refine AL.sl 4 ?_ | refine AL.sl 5 ?_ | refine AL.sl 6 ?_) <;> (first | refine AL.sl 0 ?_ | refine AL.sl 1 ?_ | refine AL.sl 2 ?_ | refine AL.sl 3 ?_ | refine AL.sl 4 ?_ | refine AL.sl 5 ?_ | refine AL.sl 6 ?_) <;> (first | refine AL.sl 0 ?_ | refine AL.sl 1 ?_ | refine AL.sl 2 ?_ | refine AL.sl 3 ?_ | refine AL.sl 4 ?_ | refine AL.sl 5 ?_ | refine AL.sl 6 ?_) <;> refine AL.nil ?_)
      | refine AW.cond_true rfl ?_
      | refine AW.cond_false rfl ?_
      | refine AW.block ?_
      | refine AW.endblk ?_
      | refine AW.skip ?_
      | refine AW.exit rfl ?_
      | refine AW.label ?_
      | refine AW.j (fun hb => ?_) (fun hb => ?_))
    all_goals first
      | (exfalso; simp only [decide_eq_true_eq, decide_eq_false_iff_not] at *; omega)
      | exact AW.retD0 (.cell 3 rfl rfl (by kernel_rfl) (.cell 4 rfl rfl (by kernel_rfl) (.cell 5 rfl rfl (by kernel_rfl) (.cell 6 rfl rfl (by kernel_rfl) .nil)))) ⟨_, _, _, _, .arg hbad hval hfound hf, rfl⟩
  repeat' (first
    | refine AW.seq ?_
    | (refine AW.region_at 9 ?_ <;> refine AL.e ?_ <;> refine AL.e ?_ <;> refine AL.e ?_ <;> (first | (refine AL.gd ?_; refine AL.e ?_) | refine AL.gs ?_ | refine AL.gu ?_ | (refine AL.gx (fun hb => ?_) (fun hb => ?_) <;> first | (refine AL.gd ?_; refine AL.e ?_) | refine AL.gs ?_)) <;> (first | (refine AL.gd ?_; refine AL.e ?_) | refine AL.gs ?_ | refine AL.gu ?_) <;> refine AL.e ?_ <;> refine AL.nil ?_)
    | refine AW.cond_true rfl ?_
    | refine AW.cond_false rfl ?_
    | refine AW.block ?_
    | refine AW.endblk ?_
    | refine AW.skip ?_
    | refine AW.exit rfl ?_
    | refine AW.label ?_
    | refine AW.j (fun hb => ?_) (fun hb => ?_))
  all_goals try (exfalso; simp only [decide_eq_true_eq, decide_eq_false_iff_not] at *; omega)
  refine AW.prune [2, 3, 4, 5, 8, 9, 10, 11, 12] ?_
  obtain ⟨hfl, hrg, hkeys, harrs, hapart, hlook, honly, har, hsar, hbody⟩ := hko
  have hFx : (some (AV.int .i64 c.Flags)) = some (AV.int .i64 (c.Flags.toNat : Nat)) := by rw [Int.toNat_of_nonneg (by omega)]
  have hRx : (some (AV.int .i64 c.Regs)) = some (AV.int .i64 (c.Regs.toNat : Nat)) := by rw [Int.toNat_of_nonneg hrg.1]
  have hFb : c.Flags.toNat ≤ 1000 := by omega
  have hRb : c.Regs.toNat ≤ 60 := by omega
  refine AW.cut (fun af ah => ∃ B : Blk, B.names = [] ∧ af = [(2, bools G), (3, .int .i64 fuel), (4, .at c.av), (5, .at s.av), (8, .ref r1 0), (9, .ref r2 0), (10, .ref r3 0), (11, .ref r 0), (12, .ref b 0), (15, .ref B.mb 0)] ∧ ah = (checkedP c).ah b ba bs gA ++ resAH r1 r2 r3 r false 0 0 0 ++ (⟨List.replicate c.Flags.toNat false, List.replicate c.Regs.toNat 0, fun _ => [], 0, 0⟩ : MS).ah ⟨s.Size, G, fuel⟩ B) ?_ ?_
  · refine AW.explore [] [4, 7, 8, 11, 12, 13, 14] rfl (by kernel_rfl) (by kernel_rfl) (by kernel_rfl) (by kernel_rfl) ?_
    repeat' (first
      | refine AQE.hole rfl rfl ?_
      | refine AQE.ev rfl rfl rfl rfl ?_
      | refine AQE.op rfl (AOp.field_at rfl rfl (by kernel_rfl) rfl) rfl rfl ?_
      | refine AQE.op rfl (AOp.load_at rfl rfl (by kernel_rfl)) rfl rfl ?_
      | refine AQE.nil ?_)
    repeat' (first
      | refine AX.four (n := 6) 4 7 8 11 rfl ?_ ?_ ?_ ?_
      | refine AX.three (n := 5) 4 7 8 rfl ?_ ?_ ?_
      | refine AX.three (n := 5) 4 7 11 rfl ?_ ?_ ?_
      | refine AX.three (n := 5) 4 8 11 rfl ?_ ?_ ?_
      | refine AX.three (n := 5) 7 8 11 rfl ?_ ?_ ?_
      | refine AX.two (n := 4) 4 7 rfl ?_ ?_
      | refine AX.two (n := 4) 4 8 rfl ?_ ?_
      | refine AX.two (n := 4) 4 11 rfl ?_ ?_
      | refine AX.two (n := 4) 7 8 rfl ?_ ?_
      | refine AX.two (n := 4) 7 11 rfl ?_ ?_
      | refine AX.two (n := 4) 8 11 rfl ?_ ?_
      | refine AX.one (n := 3) 4 rfl ?_
      | refine AX.one (n := 3) 7 rfl ?_
      | refine AX.one (n := 3) 8 rfl ?_
      | refine AX.one (n := 3) 11 rfl ?_
      | refine AX.one (n := 2) 12 rfl ?_
      | refine AX.one (n := 1) 13 rfl ?_
      | refine AX.one (n := 0) 14 rfl ?_
      | (refine AXS.new (i := 4) rfl rfl rfl (AOp.makeSlice (n := c.Flags.toNat) (e := 4) (c := .bool false) (z := .bool false) (bytes := 1) hFx hFx (by kernel_rfl) rfl (by omega) (by omega)) (fun bf => ?_); dsimp only [List.set_cons_succ, List.set_cons_zero])
      | (refine AXS.new (i := 7) rfl rfl rfl (AOp.makeSlice (n := c.Regs.toNat) (e := 3) (c := .int .i64 0) (z := .int .i64 0) (bytes := 8) hRx hRx (by kernel_rfl) rfl (by omega) (by omega)) (fun br => ?_); dsimp only [List.set_cons_succ, List.set_cons_zero])
      | (refine AXS.new (i := 8) rfl rfl rfl AOp.makeMap (fun bl => ?_); dsimp only [List.set_cons_succ, List.set_cons_zero])
      | (refine AXS.step (i := 11) rfl rfl rfl (AOp.call rfl rfl (code_actions.behind _)) ?_ (by rintro _ _ ⟨_, ⟨_, _, e, _⟩, _⟩; cases e); rintro _ _ ⟨_, ⟨bu, gu, e, rfl⟩, rfl⟩; injection e with e; subst e; dsimp only [List.set_cons_succ, List.set_cons_zero])
      | (refine AXS.det (i := 12) rfl rfl rfl (AOp.build (pl := [(0, 1), (1, 1), (2, 1), (3, 1), (4, 1), (5, 1), (6, 1), (7, 1), (8, 1)]) (z := .st [.int .i64 0, .sl [], .sl [], .val (.map none), .sl [], .int .i64 0, .int .i64 0, .int .i64 0, .val (.map none)]) (by kernel_rfl) rfl rfl rfl) ?_; dsimp only [List.set_cons_succ, List.set_cons_zero])
      | (refine AXS.new (i := 13) rfl rfl rfl (AOp.box rfl rfl) (fun bm => ?_); dsimp only [List.set_cons_succ, List.set_cons_zero])
      | (refine AXS.det (i := 14) rfl rfl rfl (AOp.ev rfl) ?_; dsimp only [List.set_cons_succ, List.set_cons_zero]))
    all_goals
      refine AX.done [(2, bools G), (3, .int .i64 fuel), (4, .at c.av), (5, .at s.av), (8, .ref r1 0), (9, .ref r2 0), (10, .ref r3 0), (11, .ref r 0), (12, .ref b 0), (15, .ref bm 0)] rfl ?_
      refine AW.perm (b := (checkedP c).ah b ba bs gA ++ resAH r1 r2 r3 r false 0 0 0 ++ (⟨List.replicate c.Flags.toNat false, List.replicate c.Regs.toNat 0, fun _ => [], 0, 0⟩ : MS).ah ⟨s.Size, G, fuel⟩ ⟨bm, bf, br, bl, bu, [], fun _ => 0, ⟨[], 0⟩, gu⟩) ?_ (AW.meet [2, 3, 4, 5, 8, 9, 10, 11, 12, 15] ⟨_, rfl, rfl, rfl⟩)
      refine List.perm_append_comm.trans (List.Perm.append_left _ ?_)
      simp only [MS.ah, MS.box, List.map_replicate, List.length_replicate, List.map_nil]
      repeat' (first
        | exact List.Perm.nil
        | refine List.Perm.cons _ ?_
        | refine (List.perm_middle (l₁ := [_])).trans (List.Perm.cons _ ?_)
        | refine (List.perm_middle (l₁ := [_, _])).trans (List.Perm.cons _ ?_)
        | refine (List.perm_middle (l₁ := [_, _, _])).trans (List.Perm.cons _ ?_)
        | refine (List.perm_middle (l₁ := [_, _, _, _])).trans (List.Perm.cons _ ?_))
  · rintro af ah ⟨B, hB, rfl, rfl⟩
    refine AW.seq (AW.seq ?_)
    exact run_t6 c s G fuel hc hs hG hbad hval hfound hf (hk hbad) b ba bs r1 r2 r3 r gA B hB Fr w0
end Go.Proofs.YtdedkpfbfklgbaaGreat
namespace Go.Proofs.YtdedkpfbfklgbaaGreat
open Go.RowKit Go.SX
set_option maxRecDepth 100000
set_option maxHeartbeats 4000000
set_option linter.unusedVariables false
set_option linter.unusedSimpArgs false

theorem SFit.nok {F R : Nat} {sig : ByteArray → Option Nat} {s : GStmt} (h : SFit F R sig s) : NOk s := by
  induction h with
  | mk h hb he ihb ihe => exact .mk h.n ihb ihe
theorem code_RunC (c : GCode) (s : GStr) (G : List Bool) (fuel : Int) (hc : c.Ok) (hs : s.Ok) (hG : G.length ≤ 4611686018427387904) : Tri Tryz.prog 8 [c.av, s.av, bools G, .int .i64 fuel] [] (RunPost c s G fuel) :=
  code_Run c s G fuel hc hs hG fun h => chk_ok h
def untilB (l : List GStmt) : Bool := hasL (fun s => decide (s.Kind = 10)) l
/-- What Time returns. -/
def timeR (c : GCode) : List Int × Int :=
  if (checkedP c).bad = true then ([], 1) else if untilB c.Body = true then ([], 6) else if (timeL c.Body []).length > 61 ∨ ∃ x ∈ timeL c.Body [], x > 1099511627776 then ([], 5) else (timeL c.Body [], 0)
theorem Time1 (s : GStmt) : Tri Tryz.prog 41 [s.st] [] (D (.bool (decide (s.Kind = 10))) []) := by
  refine Tri.enter 6 Tryz.func41 rfl rfl rfl rfl fun Fr w0 => ?_
  repeat' (first
    | refine AW.seq ?_
    | (refine AW.region_at 0 ?_ <;> refine AL.d (AOp.box_ro rfl rfl) ?_ <;> refine AL.e ?_ <;> refine AL.nil ?_)
    | (refine AW.region_at 1 ?_ <;> (first | refine AL.d AOp.fa ?_ | refine AL.d (AOp.fr 0) ?_) <;> refine AL.d AOp.la ?_ <;> refine AL.e ?_ <;> refine AL.e ?_ <;> refine AL.nil ?_)
    | refine AW.cond_true rfl ?_
    | refine AW.cond_false rfl ?_
    | refine AW.block ?_
    | refine AW.endblk ?_
    | refine AW.skip ?_
    | refine AW.exit rfl ?_
    | refine AW.label ?_
    | refine AW.j (fun hb => ?_) (fun hb => ?_))
  exact AW.retv rfl ⟨by rw [ieq], rfl⟩
theorem Time2 (x : Int) : Tri Tryz.prog 44 [iav x] [] (D (.bool (decide (x > 1099511627776))) []) := by
  refine Tri.enter 5 Tryz.func44 rfl rfl rfl rfl fun Fr w0 => ?_
  repeat' (first
    | refine AW.seq ?_
    | (refine AW.region_at 0 ?_ <;> refine AL.e ?_ <;> refine AL.nil ?_)
    | (refine AW.region_at 1 ?_ <;> refine AL.e ?_ <;> refine AL.e ?_ <;> refine AL.e ?_ <;> refine AL.nil ?_)
    | refine AW.cond_true rfl ?_
    | refine AW.cond_false rfl ?_
    | refine AW.block ?_
    | refine AW.endblk ?_
    | refine AW.skip ?_
    | refine AW.exit rfl ?_
    | refine AW.label ?_
    | refine AW.j (fun hb => ?_) (fun hb => ?_))
  exact AW.retv rfl ⟨rfl, rfl⟩
theorem code_Time (c : GCode) (hc : c.Ok) (hcnt : cntL c.Body ≤ 50000) : Tri Tryz.prog 11 [c.av] [] (D (.tup [ints (timeR c).1, .int .i64 (timeR c).2]) []) := by
  have hV := code_Valid c hc
  obtain ⟨_, _, _, hcb1, hcb2⟩ := hc
  have hK := contains_n (cntL c.Body) c.Body 41 [] (fun s => decide (s.Kind = 10)) (Nat.le_refl _) (by omega) fun s => Time1 s
  by_cases hb : (checkedP c).bad = true
  · rw [timeR, if_pos hb]
    rw [hb] at hV
    refine Tri.enter 22 Tryz.func11 rfl rfl rfl rfl fun Fr w0 => ?_
    repeat' (first
      | refine AW.seq ?_
      | (refine AW.region_at 0 ?_ <;> refine AL.d (AOp.box_ro rfl rfl) ?_ <;> refine AL.e ?_ <;> refine AL.e ?_ <;> refine AL.nil ?_)
      | (refine AW.region_at 1 ?_ <;> refine AL.d AOp.la ?_ <;> refine AL.d (AOp.call rfl rfl hV) ?_ <;> refine AL.e ?_ <;> refine AL.nil ?_)
      | (refine AW.region_at 2 ?_ <;> refine AL.e ?_ <;> refine AL.e ?_ <;> refine AL.nil ?_)
      | refine AW.cond_true rfl ?_
      | refine AW.cond_false rfl ?_
      | refine AW.block ?_
      | refine AW.endblk ?_
      | refine AW.skip ?_
      | refine AW.exit rfl ?_
      | refine AW.label ?_
      | refine AW.j (fun hb => ?_) (fun hb => ?_))
    all_goals first
      | exact AW.retv rfl ⟨rfl, rfl⟩
      | (exfalso; simp at *; done)
  · have hb' : (checkedP c).bad = false := by simpa using hb
    have hno : ∀ x ∈ c.Body, NOk x := fun x hx => ((chk_ok hb').body x hx).nok
    have hT := code_time (cntL c.Body) c.Body (Nat.le_refl _) hcnt (by omega) hcb2 hno
    have hf := timeL_facts (cntL c.Body) c.Body (Nat.le_refl _) hno [] nil_ok
    simp only [List.length_nil] at hf
    have hC := ContainsFunc_poly (timeL c.Body []) (by omega) 44 [] (fun x => decide (x > 1099511627776)) fun x _ => Time2 x
    rw [timeR, if_neg hb]
    rw [hb'] at hV
    have hlen : (((timeL c.Body []).map iav).length : Int) = (timeL c.Body []).length := by simp
    unfold untilB
    by_cases hu : hasL (fun s => decide (s.Kind = 10)) c.Body = true
    · rw [if_pos hu]
      rw [hu] at hK
      refine Tri.enter 22 Tryz.func11 rfl rfl rfl rfl fun Fr w0 => ?_
      repeat' (first
        | refine AW.seq ?_
        | (refine AW.region_at 0 ?_ <;> refine AL.d (AOp.box_ro rfl rfl) ?_ <;> refine AL.e ?_ <;> refine AL.e ?_ <;> refine AL.nil ?_)
        | (refine AW.region_at 1 ?_ <;> refine AL.d AOp.la ?_ <;> (first | refine AL.d (AOp.call rfl rfl hV) ?_ | refine AL.d (AOp.call rfl rfl hK) ?_) <;> refine AL.e ?_ <;> refine AL.nil ?_)
        | (refine AW.region_at 3 ?_ <;> (first | refine AL.d AOp.fa ?_ | refine AL.d (AOp.fr 3) ?_) <;> refine AL.d AOp.la ?_ <;> (first | refine AL.d (AOp.call rfl rfl hV) ?_ | refine AL.d (AOp.call rfl rfl hK) ?_) <;> refine AL.nil ?_)
        | (refine AW.region_at 4 ?_ <;> refine AL.e ?_ <;> refine AL.e ?_ <;> refine AL.nil ?_)
        | refine AW.cond_true rfl ?_
        | refine AW.cond_false rfl ?_
        | refine AW.block ?_
        | refine AW.endblk ?_
        | refine AW.skip ?_
        | refine AW.exit rfl ?_
        | refine AW.label ?_
        | refine AW.j (fun hb => ?_) (fun hb => ?_))
      all_goals first
        | exact AW.retv rfl ⟨rfl, rfl⟩
        | (exfalso; simp at *; done)
    · rw [if_neg hu]
      rw [show hasL (fun s => decide (s.Kind = 10)) c.Body = false by simpa using hu] at hK
      refine Tri.enter 22 Tryz.func11 rfl rfl rfl rfl fun Fr w0 => ?_
      repeat' (first
        | refine AW.seq ?_
        | (refine AW.region_at 0 ?_ <;> refine AL.d (AOp.box_ro rfl rfl) ?_ <;> refine AL.e ?_ <;> refine AL.e ?_ <;> refine AL.nil ?_)
        | (refine AW.region_at 1 ?_ <;> refine AL.d AOp.la ?_ <;> (first | refine AL.d (AOp.call rfl rfl hV) ?_ | refine AL.d (AOp.call rfl rfl hK) ?_ | refine AL.d (AOp.call rfl rfl hT) ?_ | refine AL.d (AOp.call rfl rfl hC) ?_) <;> refine AL.e ?_ <;> refine AL.nil ?_)
        | (refine AW.region_at 3 ?_ <;> (first | refine AL.d AOp.fa ?_ | refine AL.d (AOp.fr 3) ?_) <;> refine AL.d AOp.la ?_ <;> (first | refine AL.d (AOp.call rfl rfl hV) ?_ | refine AL.d (AOp.call rfl rfl hK) ?_ | refine AL.d (AOp.call rfl rfl hT) ?_ | refine AL.d (AOp.call rfl rfl hC) ?_) <;> refine AL.nil ?_)
        | (refine AW.region_at 5 ?_ <;> (first | refine AL.d AOp.fa ?_ | refine AL.d (AOp.fr 3) ?_) <;> refine AL.d AOp.la ?_ <;> (first | refine AL.d (AOp.call rfl rfl hV) ?_ | refine AL.d (AOp.call rfl rfl hK) ?_ | refine AL.d (AOp.call rfl rfl hT) ?_ | refine AL.d (AOp.call rfl rfl hC) ?_) <;> refine AL.e ?_ <;> refine AL.nil ?_)
        | (refine AW.region_at 6 ?_ <;> refine AL.e ?_ <;> refine AL.d AOp.ln ?_ <;> refine AL.e ?_ <;> refine AL.e ?_ <;> (first | (refine AL.gd ?_; refine AL.e ?_) | refine AL.gs ?_ | refine AL.gu ?_ | (refine AL.gx (fun hb => ?_) (fun hb => ?_) <;> first | (refine AL.gd ?_; refine AL.e ?_) | refine AL.gs ?_)) <;> (first | (refine AL.gd ?_; (first | refine AL.d (AOp.call rfl rfl hV) ?_ | refine AL.d (AOp.call rfl rfl hK) ?_ | refine AL.d (AOp.call rfl rfl hT) ?_ | refine AL.d (AOp.call rfl rfl hC) ?_)) | refine AL.gs ?_ | refine AL.gu ?_) <;> refine AL.e ?_ <;> refine AL.nil ?_)
        | (refine AW.region_at 7 ?_ <;> refine AL.e ?_ <;> refine AL.e ?_ <;> refine AL.nil ?_)
        | (refine AW.region_at 8 ?_ <;> refine AL.e ?_ <;> refine AL.e ?_ <;> refine AL.e ?_ <;> refine AL.nil ?_)
        | refine AW.cond_true rfl ?_
        | refine AW.cond_false rfl ?_
        | refine AW.block ?_
        | refine AW.endblk ?_
        | refine AW.skip ?_
        | refine AW.exit rfl ?_
        | refine AW.label ?_
        | refine AW.j (fun hb => ?_) (fun hb => ?_))
      all_goals first
        | (exfalso; simp at *; done)
        | skip
      all_goals first
        | (refine AW.retv rfl ⟨?_, rfl⟩; rw [if_pos (Or.inl (by simp only [decide_eq_true_eq] at hb; omega))]; rfl)
        | (refine AW.retv rfl ⟨?_, rfl⟩; rw [if_pos (Or.inr (by simpa using hb))]; rfl)
        | (rename_i hb2; refine AW.retv rfl ⟨?_, rfl⟩; rw [if_neg (by (rintro (h | ⟨x, hx, h⟩); (simp only [decide_eq_false_iff_not] at hb2; omega); (simp at hb; have := hb x hx; omega)))]; rfl)
end Go.Proofs.YtdedkpfbfklgbaaGreat
