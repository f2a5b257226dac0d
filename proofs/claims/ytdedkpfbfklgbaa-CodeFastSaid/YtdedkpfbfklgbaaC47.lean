/- Contracts: CodeFast. -/
import Derived.Test.YtdedkpfbfklgbaaC46
namespace Go.Proofs.Ytdedkpfbfklgbaa
open Go.RowKit Go.SX
set_option maxRecDepth 100000
set_option maxHeartbeats 4000000
set_option linter.unusedVariables false
set_option linter.unusedSimpArgs false

theorem law_CodeFast (c : GCode) (s : GStr) (gs : List Bool) (hc : c.Ok) (hs : s.Ok) (hgs : gs.length ≤ 4611686018427387904) :
    Tri Try.prog 3 [c.av, s.av, bools gs] [] (D (.bool true) []) := by
  have hA := law_alive
  have hF := law_Few c hc 300 (by omega)
  have hFS := law_FewS s hs
  have hlen : ((gs.map bav).length : Int) = gs.length := by simp
  refine Tri.enter 74 Try.func3 rfl rfl rfl rfl fun Fr w0 => ?_
  repeat' (first
    | refine AW.seq ?_
    | (refine AW.region_at 0 ?_ <;> refine AL.det (AOp.box_ro rfl rfl) rfl rfl rfl ?_ <;> refine AL.det (AOp.box_ro rfl rfl) rfl rfl rfl ?_ <;> refine AL.ev rfl rfl rfl rfl ?_ <;> refine AL.nil ?_)
    | refine AW.cond_true rfl ?_
    | refine AW.cond_false rfl ?_
    | refine AW.block ?_
    | refine AW.endblk ?_
    | refine AW.skip ?_
    | refine AW.exit rfl ?_
    | refine AW.label ?_
    | refine AW.cond rfl (fun hb => ?_) (fun hb => ?_))
  refine AW.cut (fun af ah => ∃ v : Bool, af = [(2, bools gs), (3, .at c.av), (4, .at s.av), (27, .bool v)] ∧ ah = [] ∧ (v = false → fewC c 300 = true)) ?_ ?_
  · repeat' (first
      | refine AW.seq ?_
      | (refine AW.region_at 1 ?_ <;> refine AL.det (AOp.load_at rfl rfl (by kernel_rfl)) rfl rfl rfl ?_ <;> (first | ((refine AL.callQ rfl rfl hFS rfl ?_ ?_; rotate_left; rintro _ _ ⟨_, e, _⟩; cases e; rintro _ _ ⟨bS, e, rfl⟩; injection e with e; subst e)) | refine AL.det (AOp.call rfl rfl hF) rfl rfl rfl ?_) <;> refine AL.ev rfl rfl rfl rfl ?_ <;> refine AL.ev rfl rfl rfl rfl ?_ <;> (first | (refine AL.guard_do rfl rfl rfl rfl ?_; refine AL.det (AOp.load_at rfl rfl (by kernel_rfl)) rfl rfl rfl ?_) | refine AL.guard_skip rfl rfl rfl rfl rfl ?_ | refine AL.guard_undef rfl rfl rfl rfl ?_ | (refine AL.guard_split rfl rfl rfl (fun hb => ?_) (fun hb => ?_) <;> first | (refine AL.guard_do rfl rfl rfl rfl ?_; refine AL.det (AOp.load_at rfl rfl (by kernel_rfl)) rfl rfl rfl ?_) | refine AL.guard_skip rfl rfl rfl rfl rfl ?_)) <;> (first | (refine AL.guard_do rfl rfl rfl rfl ?_; refine AL.det (AOp.lit (t := 45) (e := 28) (sz := 2) (by kernel_rfl) rfl rfl rfl (by simp [AV.size, AV.sizes, GStr.av]) (by decide)) rfl rfl rfl ?_) | refine AL.guard_skip rfl rfl rfl rfl rfl ?_ | refine AL.guard_undef rfl rfl rfl rfl ?_ | (refine AL.guard_split rfl rfl rfl (fun hb => ?_) (fun hb => ?_) <;> first | (refine AL.guard_do rfl rfl rfl rfl ?_; refine AL.det (AOp.lit (t := 45) (e := 28) (sz := 2) (by kernel_rfl) rfl rfl rfl (by simp [AV.size, AV.sizes, GStr.av]) (by decide)) rfl rfl rfl ?_) | refine AL.guard_skip rfl rfl rfl rfl rfl ?_)) <;> (first | (refine AL.guard_do rfl rfl rfl rfl ?_; (first | ((refine AL.callQ rfl rfl hFS rfl ?_ ?_; rotate_left; rintro _ _ ⟨_, e, _⟩; cases e; rintro _ _ ⟨bS, e, rfl⟩; injection e with e; subst e)) | refine AL.det (AOp.call rfl rfl hF) rfl rfl rfl ?_)) | refine AL.guard_skip rfl rfl rfl rfl rfl ?_ | refine AL.guard_undef rfl rfl rfl rfl ?_ | (refine AL.guard_split rfl rfl rfl (fun hb => ?_) (fun hb => ?_) <;> first | (refine AL.guard_do rfl rfl rfl rfl ?_; (first | ((refine AL.callQ rfl rfl hFS rfl ?_ ?_; rotate_left; rintro _ _ ⟨_, e, _⟩; cases e; rintro _ _ ⟨bS, e, rfl⟩; injection e with e; subst e)) | refine AL.det (AOp.call rfl rfl hF) rfl rfl rfl ?_)) | refine AL.guard_skip rfl rfl rfl rfl rfl ?_)) <;> (first | (refine AL.guard_do rfl rfl rfl rfl ?_; refine AL.ev rfl rfl rfl rfl ?_) | refine AL.guard_skip rfl rfl rfl rfl rfl ?_ | refine AL.guard_undef rfl rfl rfl rfl ?_ | (refine AL.guard_split rfl rfl rfl (fun hb => ?_) (fun hb => ?_) <;> first | (refine AL.guard_do rfl rfl rfl rfl ?_; refine AL.ev rfl rfl rfl rfl ?_) | refine AL.guard_skip rfl rfl rfl rfl rfl ?_)) <;> refine AL.ev rfl rfl rfl rfl ?_ <;> refine AL.ev rfl rfl rfl rfl ?_ <;> (first | (refine AL.guard_do rfl rfl rfl rfl ?_; refine AL.ev rfl rfl rfl rfl ?_) | refine AL.guard_skip rfl rfl rfl rfl rfl ?_ | refine AL.guard_undef rfl rfl rfl rfl ?_ | (refine AL.guard_split rfl rfl rfl (fun hb => ?_) (fun hb => ?_) <;> first | (refine AL.guard_do rfl rfl rfl rfl ?_; refine AL.ev rfl rfl rfl rfl ?_) | refine AL.guard_skip rfl rfl rfl rfl rfl ?_)) <;> (first | (refine AL.guard_do rfl rfl rfl rfl ?_; refine AL.det (AOp.len rfl rfl (by kernel_rfl)) rfl rfl rfl ?_) | refine AL.guard_skip rfl rfl rfl rfl rfl ?_ | refine AL.guard_undef rfl rfl rfl rfl ?_ | (refine AL.guard_split rfl rfl rfl (fun hb => ?_) (fun hb => ?_) <;> first | (refine AL.guard_do rfl rfl rfl rfl ?_; refine AL.det (AOp.len rfl rfl (by kernel_rfl)) rfl rfl rfl ?_) | refine AL.guard_skip rfl rfl rfl rfl rfl ?_)) <;> (first | (refine AL.guard_do rfl rfl rfl rfl ?_; (first | refine AL.ev rfl rfl rfl rfl ?_ | refine AL.det (AOp.add rfl rfl (by omega)) rfl rfl rfl ?_ | refine AL.det (AOp.sub rfl rfl (by omega)) rfl rfl rfl ?_ | refine AL.det (AOp.bool_eq (by kernel_rfl) rfl rfl) rfl rfl rfl ?_ | refine AL.det (AOp.bool_ne (by kernel_rfl) rfl rfl) rfl rfl rfl ?_)) | refine AL.guard_skip rfl rfl rfl rfl rfl ?_ | refine AL.guard_undef rfl rfl rfl rfl ?_ | (refine AL.guard_split rfl rfl rfl (fun hb => ?_) (fun hb => ?_) <;> first | (refine AL.guard_do rfl rfl rfl rfl ?_; (first | refine AL.ev rfl rfl rfl rfl ?_ | refine AL.det (AOp.add rfl rfl (by omega)) rfl rfl rfl ?_ | refine AL.det (AOp.sub rfl rfl (by omega)) rfl rfl rfl ?_ | refine AL.det (AOp.bool_eq (by kernel_rfl) rfl rfl) rfl rfl rfl ?_ | refine AL.det (AOp.bool_ne (by kernel_rfl) rfl rfl) rfl rfl rfl ?_)) | refine AL.guard_skip rfl rfl rfl rfl rfl ?_)) <;> refine AL.ev rfl rfl rfl rfl ?_ <;> refine AL.nil ?_)
      | refine AW.cond_true rfl ?_
      | refine AW.cond_false rfl ?_
      | refine AW.block ?_
      | refine AW.endblk ?_
      | refine AW.skip ?_
      | refine AW.exit rfl ?_
      | refine AW.label ?_
      | refine AW.cond rfl (fun hb => ?_) (fun hb => ?_))
    all_goals (refine AW.meet [2, 3, 4, 27] ⟨_, rfl, rfl, fun h => ?_⟩)
    all_goals first
      | (simp_all; done)
  rintro af ah ⟨v, rfl, rfl, hv⟩
  repeat' (first
    | refine AW.seq ?_
    | (refine AW.region_at 2 ?_ <;> refine AL.det (AOp.call rfl rfl hA) rfl rfl rfl ?_ <;> refine AL.ev rfl rfl rfl rfl ?_ <;> refine AL.nil ?_)
    | refine AW.cond_true rfl ?_
    | refine AW.cond_false rfl ?_
    | refine AW.block ?_
    | refine AW.endblk ?_
    | refine AW.skip ?_
    | refine AW.exit rfl ?_
    | refine AW.label ?_
    | refine AW.cond rfl (fun hb => ?_) (fun hb => ?_))
  · exact AW.retv rfl ⟨rfl, rfl⟩
  have hfew := hv hb
  have hcnt := few_cnt hc hfew
  clear hv hb hF hFS
  have hT := code_Time c hc (by omega)
  by_cases ht : (timeR c).2 = 0 ∧ 1 ≤ s.Size ∧ s.Size ≤ 64
  · obtain ⟨ht, hs1, hs2⟩ := ht
    rw [ht] at hT
    obtain ⟨t1, t2, t3⟩ := time_small hcnt ht
    obtain ⟨g1, g2, g3⟩ := timeR_good ht
    have hpl : (timeR c).1.length ≤ 4611686018427387904 := by
      have f := timeL_facts (cntL c.Body) c.Body (Nat.le_refl _) (fun x hx => ((chk_ok g1).body x hx).nok) [] nil_ok
      rw [g3]; simp only [List.length_nil] at f; omega
    have hV := law_value (timeR c).1 s.Size t1 ⟨by omega, hs2⟩ hpl
    repeat' (first
      | refine AW.seq ?_
      | (refine AW.region_at 3 ?_ <;> refine AL.det (AOp.load_at rfl rfl (by kernel_rfl)) rfl rfl rfl ?_ <;> (first | refine AL.det (AOp.call rfl rfl hT) rfl rfl rfl ?_ | refine AL.det (AOp.call rfl rfl hV) rfl rfl rfl ?_ | refine AL.det (AOp.call rfl rfl hA) rfl rfl rfl ?_) <;> refine AL.ev rfl rfl rfl rfl ?_ <;> refine AL.ev rfl rfl rfl rfl ?_ <;> refine AL.ev rfl rfl rfl rfl ?_ <;> refine AL.ev rfl rfl rfl rfl ?_ <;> refine AL.ev rfl rfl rfl rfl ?_ <;> refine AL.nil ?_)
      | (refine AW.region_at 4 ?_ <;> refine AL.ev rfl rfl rfl rfl ?_ <;> (first | refine AL.ev rfl rfl rfl rfl ?_ | refine AL.det (AOp.add rfl rfl (by omega)) rfl rfl rfl ?_ | refine AL.det (AOp.sub rfl rfl (by omega)) rfl rfl rfl ?_ | refine AL.det (AOp.bool_eq (by kernel_rfl) rfl rfl) rfl rfl rfl ?_ | refine AL.det (AOp.bool_ne (by kernel_rfl) rfl rfl) rfl rfl rfl ?_) <;> refine AL.ev rfl rfl rfl rfl ?_ <;> (first | (refine AL.guard_do rfl rfl rfl rfl ?_; (first | refine AL.det (AOp.field_at rfl rfl (by kernel_rfl) rfl) rfl rfl rfl ?_ | refine AL.det (AOp.field_ref (off := 0) rfl (by kernel_rfl)) rfl rfl rfl ?_)) | refine AL.guard_skip rfl rfl rfl rfl rfl ?_ | refine AL.guard_undef rfl rfl rfl rfl ?_ | (refine AL.guard_split rfl rfl rfl (fun hb => ?_) (fun hb => ?_) <;> first | (refine AL.guard_do rfl rfl rfl rfl ?_; (first | refine AL.det (AOp.field_at rfl rfl (by kernel_rfl) rfl) rfl rfl rfl ?_ | refine AL.det (AOp.field_ref (off := 0) rfl (by kernel_rfl)) rfl rfl rfl ?_)) | refine AL.guard_skip rfl rfl rfl rfl rfl ?_)) <;> (first | (refine AL.guard_do rfl rfl rfl rfl ?_; refine AL.det (AOp.load_at rfl rfl (by kernel_rfl)) rfl rfl rfl ?_) | refine AL.guard_skip rfl rfl rfl rfl rfl ?_ | refine AL.guard_undef rfl rfl rfl rfl ?_ | (refine AL.guard_split rfl rfl rfl (fun hb => ?_) (fun hb => ?_) <;> first | (refine AL.guard_do rfl rfl rfl rfl ?_; refine AL.det (AOp.load_at rfl rfl (by kernel_rfl)) rfl rfl rfl ?_) | refine AL.guard_skip rfl rfl rfl rfl rfl ?_)) <;> (first | (refine AL.guard_do rfl rfl rfl rfl ?_; (first | refine AL.ev rfl rfl rfl rfl ?_ | refine AL.det (AOp.add rfl rfl (by omega)) rfl rfl rfl ?_ | refine AL.det (AOp.sub rfl rfl (by omega)) rfl rfl rfl ?_ | refine AL.det (AOp.bool_eq (by kernel_rfl) rfl rfl) rfl rfl rfl ?_ | refine AL.det (AOp.bool_ne (by kernel_rfl) rfl rfl) rfl rfl rfl ?_)) | refine AL.guard_skip rfl rfl rfl rfl rfl ?_ | refine AL.guard_undef rfl rfl rfl rfl ?_ | (refine AL.guard_split rfl rfl rfl (fun hb => ?_) (fun hb => ?_) <;> first | (refine AL.guard_do rfl rfl rfl rfl ?_; (first | refine AL.ev rfl rfl rfl rfl ?_ | refine AL.det (AOp.add rfl rfl (by omega)) rfl rfl rfl ?_ | refine AL.det (AOp.sub rfl rfl (by omega)) rfl rfl rfl ?_ | refine AL.det (AOp.bool_eq (by kernel_rfl) rfl rfl) rfl rfl rfl ?_ | refine AL.det (AOp.bool_ne (by kernel_rfl) rfl rfl) rfl rfl rfl ?_)) | refine AL.guard_skip rfl rfl rfl rfl rfl ?_)) <;> refine AL.ev rfl rfl rfl rfl ?_ <;> refine AL.ev rfl rfl rfl rfl ?_ <;> (first | (refine AL.guard_do rfl rfl rfl rfl ?_; (first | refine AL.det (AOp.field_at rfl rfl (by kernel_rfl) rfl) rfl rfl rfl ?_ | refine AL.det (AOp.field_ref (off := 0) rfl (by kernel_rfl)) rfl rfl rfl ?_)) | refine AL.guard_skip rfl rfl rfl rfl rfl ?_ | refine AL.guard_undef rfl rfl rfl rfl ?_ | (refine AL.guard_split rfl rfl rfl (fun hb => ?_) (fun hb => ?_) <;> first | (refine AL.guard_do rfl rfl rfl rfl ?_; (first | refine AL.det (AOp.field_at rfl rfl (by kernel_rfl) rfl) rfl rfl rfl ?_ | refine AL.det (AOp.field_ref (off := 0) rfl (by kernel_rfl)) rfl rfl rfl ?_)) | refine AL.guard_skip rfl rfl rfl rfl rfl ?_)) <;> (first | (refine AL.guard_do rfl rfl rfl rfl ?_; refine AL.det (AOp.load_at rfl rfl (by kernel_rfl)) rfl rfl rfl ?_) | refine AL.guard_skip rfl rfl rfl rfl rfl ?_ | refine AL.guard_undef rfl rfl rfl rfl ?_ | (refine AL.guard_split rfl rfl rfl (fun hb => ?_) (fun hb => ?_) <;> first | (refine AL.guard_do rfl rfl rfl rfl ?_; refine AL.det (AOp.load_at rfl rfl (by kernel_rfl)) rfl rfl rfl ?_) | refine AL.guard_skip rfl rfl rfl rfl rfl ?_)) <;> (first | (refine AL.guard_do rfl rfl rfl rfl ?_; (first | refine AL.ev rfl rfl rfl rfl ?_ | refine AL.det (AOp.add rfl rfl (by omega)) rfl rfl rfl ?_ | refine AL.det (AOp.sub rfl rfl (by omega)) rfl rfl rfl ?_ | refine AL.det (AOp.bool_eq (by kernel_rfl) rfl rfl) rfl rfl rfl ?_ | refine AL.det (AOp.bool_ne (by kernel_rfl) rfl rfl) rfl rfl rfl ?_)) | refine AL.guard_skip rfl rfl rfl rfl rfl ?_ | refine AL.guard_undef rfl rfl rfl rfl ?_ | (refine AL.guard_split rfl rfl rfl (fun hb => ?_) (fun hb => ?_) <;> first | (refine AL.guard_do rfl rfl rfl rfl ?_; (first | refine AL.ev rfl rfl rfl rfl ?_ | refine AL.det (AOp.add rfl rfl (by omega)) rfl rfl rfl ?_ | refine AL.det (AOp.sub rfl rfl (by omega)) rfl rfl rfl ?_ | refine AL.det (AOp.bool_eq (by kernel_rfl) rfl rfl) rfl rfl rfl ?_ | refine AL.det (AOp.bool_ne (by kernel_rfl) rfl rfl) rfl rfl rfl ?_)) | refine AL.guard_skip rfl rfl rfl rfl rfl ?_)) <;> refine AL.ev rfl rfl rfl rfl ?_ <;> refine AL.nil ?_)
      | (refine AW.region_at 6 ?_ <;> refine AL.ev rfl rfl rfl rfl ?_ <;> (first | refine AL.det (AOp.field_at rfl rfl (by kernel_rfl) rfl) rfl rfl rfl ?_ | refine AL.det (AOp.field_ref (off := 0) rfl (by kernel_rfl)) rfl rfl rfl ?_) <;> refine AL.det (AOp.load_at rfl rfl (by kernel_rfl)) rfl rfl rfl ?_ <;> (first | refine AL.det (AOp.call rfl rfl hT) rfl rfl rfl ?_ | refine AL.det (AOp.call rfl rfl hV) rfl rfl rfl ?_ | refine AL.det (AOp.call rfl rfl hA) rfl rfl rfl ?_) <;> refine AL.ev rfl rfl rfl rfl ?_ <;> refine AL.nil ?_)
      | (refine AW.region_at 7 ?_ <;> refine AL.ev rfl rfl rfl rfl ?_ <;> (first | refine AL.ev rfl rfl rfl rfl ?_ | refine AL.det (AOp.add rfl rfl (by omega)) rfl rfl rfl ?_ | refine AL.det (AOp.sub rfl rfl (by omega)) rfl rfl rfl ?_ | refine AL.det (AOp.bool_eq (by kernel_rfl) rfl rfl) rfl rfl rfl ?_ | refine AL.det (AOp.bool_ne (by kernel_rfl) rfl rfl) rfl rfl rfl ?_) <;> refine AL.nil ?_)
      | (refine AW.region_at 8 ?_ <;> (first | refine AL.det (AOp.call rfl rfl hT) rfl rfl rfl ?_ | refine AL.det (AOp.call rfl rfl hV) rfl rfl rfl ?_ | refine AL.det (AOp.call rfl rfl hA) rfl rfl rfl ?_) <;> refine AL.ev rfl rfl rfl rfl ?_ <;> refine AL.nil ?_)
      | refine AW.cond_true rfl ?_
      | refine AW.cond_false rfl ?_
      | refine AW.block ?_
      | refine AW.endblk ?_
      | refine AW.skip ?_
      | refine AW.exit rfl ?_
      | refine AW.label ?_
      | refine AW.cond rfl (fun hb => ?_) (fun hb => ?_))
    all_goals try (exfalso; simp only [decide_eq_true_eq, decide_eq_false_iff_not] at *; simp at *; omega)
    · exact AW.retv rfl ⟨rfl, rfl⟩
    have hv : valGo s.Size (timeR c).1 0 1 ≤ 20000 := by simp only [decide_eq_false_iff_not] at hb; omega
    obtain ⟨b, n, g, e, hR, hRun⟩ := code_RunD c s gs (valGo s.Size (timeR c).1 0 1) hc hs hgs
    obtain ⟨f1, f2⟩ := fast_law hcnt ht hs1 hv hR
    clear hb
    repeat' (first
      | refine AW.seq ?_
      | (refine AW.region_at 9 ?_ <;> refine AL.det (AOp.load_at rfl rfl (by kernel_rfl)) rfl rfl rfl ?_ <;> refine AL.det (AOp.load_at rfl rfl (by kernel_rfl)) rfl rfl rfl ?_ <;> refine AL.ev rfl rfl rfl rfl ?_ <;> refine AL.ev rfl rfl rfl rfl ?_ <;> (first | refine AL.det (AOp.call rfl rfl hRun) rfl rfl rfl ?_ | refine AL.det (AOp.call rfl rfl hA) rfl rfl rfl ?_) <;> refine AL.ev rfl rfl rfl rfl ?_ <;> refine AL.ev rfl rfl rfl rfl ?_ <;> refine AL.ev rfl rfl rfl rfl ?_ <;> refine AL.ev rfl rfl rfl rfl ?_ <;> refine AL.ev rfl rfl rfl rfl ?_ <;> refine AL.ev rfl rfl rfl rfl ?_ <;> refine AL.ev rfl rfl rfl rfl ?_ <;> refine AL.ev rfl rfl rfl rfl ?_ <;> refine AL.ev rfl rfl rfl rfl ?_ <;> refine AL.nil ?_)
      | (refine AW.region_at 10 ?_ <;> refine AL.ev rfl rfl rfl rfl ?_ <;> (first | refine AL.ev rfl rfl rfl rfl ?_ | refine AL.det (AOp.add rfl rfl (by omega)) rfl rfl rfl ?_ | refine AL.det (AOp.sub rfl rfl (by omega)) rfl rfl rfl ?_ | refine AL.det (AOp.bool_eq (by kernel_rfl) rfl rfl) rfl rfl rfl ?_ | refine AL.det (AOp.bool_ne (by kernel_rfl) rfl rfl) rfl rfl rfl ?_) <;> refine AL.ev rfl rfl rfl rfl ?_ <;> (first | (refine AL.guard_do rfl rfl rfl rfl ?_; refine AL.ev rfl rfl rfl rfl ?_) | refine AL.guard_skip rfl rfl rfl rfl rfl ?_ | refine AL.guard_undef rfl rfl rfl rfl ?_ | (refine AL.guard_split rfl rfl rfl (fun hb => ?_) (fun hb => ?_) <;> first | (refine AL.guard_do rfl rfl rfl rfl ?_; refine AL.ev rfl rfl rfl rfl ?_) | refine AL.guard_skip rfl rfl rfl rfl rfl ?_)) <;> (first | (refine AL.guard_do rfl rfl rfl rfl ?_; refine AL.ev rfl rfl rfl rfl ?_) | refine AL.guard_skip rfl rfl rfl rfl rfl ?_ | refine AL.guard_undef rfl rfl rfl rfl ?_ | (refine AL.guard_split rfl rfl rfl (fun hb => ?_) (fun hb => ?_) <;> first | (refine AL.guard_do rfl rfl rfl rfl ?_; refine AL.ev rfl rfl rfl rfl ?_) | refine AL.guard_skip rfl rfl rfl rfl rfl ?_)) <;> (first | (refine AL.guard_do rfl rfl rfl rfl ?_; (first | refine AL.ev rfl rfl rfl rfl ?_ | refine AL.det (AOp.add rfl rfl (by omega)) rfl rfl rfl ?_ | refine AL.det (AOp.sub rfl rfl (by omega)) rfl rfl rfl ?_ | refine AL.det (AOp.bool_eq (by kernel_rfl) rfl rfl) rfl rfl rfl ?_ | refine AL.det (AOp.bool_ne (by kernel_rfl) rfl rfl) rfl rfl rfl ?_)) | refine AL.guard_skip rfl rfl rfl rfl rfl ?_ | refine AL.guard_undef rfl rfl rfl rfl ?_ | (refine AL.guard_split rfl rfl rfl (fun hb => ?_) (fun hb => ?_) <;> first | (refine AL.guard_do rfl rfl rfl rfl ?_; (first | refine AL.ev rfl rfl rfl rfl ?_ | refine AL.det (AOp.add rfl rfl (by omega)) rfl rfl rfl ?_ | refine AL.det (AOp.sub rfl rfl (by omega)) rfl rfl rfl ?_ | refine AL.det (AOp.bool_eq (by kernel_rfl) rfl rfl) rfl rfl rfl ?_ | refine AL.det (AOp.bool_ne (by kernel_rfl) rfl rfl) rfl rfl rfl ?_)) | refine AL.guard_skip rfl rfl rfl rfl rfl ?_)) <;> refine AL.ev rfl rfl rfl rfl ?_ <;> refine AL.ev rfl rfl rfl rfl ?_ <;> (first | (refine AL.guard_do rfl rfl rfl rfl ?_; (first | refine AL.det (AOp.call rfl rfl hRun) rfl rfl rfl ?_ | refine AL.det (AOp.call rfl rfl hA) rfl rfl rfl ?_)) | refine AL.guard_skip rfl rfl rfl rfl rfl ?_ | refine AL.guard_undef rfl rfl rfl rfl ?_ | (refine AL.guard_split rfl rfl rfl (fun hb => ?_) (fun hb => ?_) <;> first | (refine AL.guard_do rfl rfl rfl rfl ?_; (first | refine AL.det (AOp.call rfl rfl hRun) rfl rfl rfl ?_ | refine AL.det (AOp.call rfl rfl hA) rfl rfl rfl ?_)) | refine AL.guard_skip rfl rfl rfl rfl rfl ?_)) <;> refine AL.ev rfl rfl rfl rfl ?_ <;> refine AL.ev rfl rfl rfl rfl ?_ <;> refine AL.nil ?_)
      | refine AW.cond_true rfl ?_
      | refine AW.cond_false rfl ?_
      | refine AW.block ?_
      | refine AW.endblk ?_
      | refine AW.skip ?_
      | refine AW.exit rfl ?_
      | refine AW.label ?_
      | refine AW.cond rfl (fun hb => ?_) (fun hb => ?_))
    all_goals first
      | (exfalso; simp only [decide_eq_true_eq, decide_eq_false_iff_not, bne_iff_ne, ne_eq, bne_eq_false_iff_eq] at *; omega)
      | exact AW.retv rfl ⟨rfl, rfl⟩
      | exact AW.donev rfl ⟨rfl, rfl⟩
  · repeat' (first
      | refine AW.seq ?_
      | (refine AW.region_at 3 ?_ <;> refine AL.det (AOp.load_at rfl rfl (by kernel_rfl)) rfl rfl rfl ?_ <;> (first | refine AL.det (AOp.call rfl rfl hT) rfl rfl rfl ?_ | refine AL.det (AOp.call rfl rfl hA) rfl rfl rfl ?_) <;> refine AL.ev rfl rfl rfl rfl ?_ <;> refine AL.ev rfl rfl rfl rfl ?_ <;> refine AL.ev rfl rfl rfl rfl ?_ <;> refine AL.ev rfl rfl rfl rfl ?_ <;> refine AL.ev rfl rfl rfl rfl ?_ <;> refine AL.nil ?_)
      | (refine AW.region_at 4 ?_ <;> refine AL.ev rfl rfl rfl rfl ?_ <;> (first | refine AL.ev rfl rfl rfl rfl ?_ | refine AL.det (AOp.add rfl rfl (by omega)) rfl rfl rfl ?_ | refine AL.det (AOp.sub rfl rfl (by omega)) rfl rfl rfl ?_ | refine AL.det (AOp.bool_eq (by kernel_rfl) rfl rfl) rfl rfl rfl ?_ | refine AL.det (AOp.bool_ne (by kernel_rfl) rfl rfl) rfl rfl rfl ?_) <;> refine AL.ev rfl rfl rfl rfl ?_ <;> (first | (refine AL.guard_do rfl rfl rfl rfl ?_; (first | refine AL.det (AOp.field_at rfl rfl (by kernel_rfl) rfl) rfl rfl rfl ?_ | refine AL.det (AOp.field_ref (off := 0) rfl (by kernel_rfl)) rfl rfl rfl ?_)) | refine AL.guard_skip rfl rfl rfl rfl rfl ?_ | refine AL.guard_undef rfl rfl rfl rfl ?_ | (refine AL.guard_split rfl rfl rfl (fun hb => ?_) (fun hb => ?_) <;> first | (refine AL.guard_do rfl rfl rfl rfl ?_; (first | refine AL.det (AOp.field_at rfl rfl (by kernel_rfl) rfl) rfl rfl rfl ?_ | refine AL.det (AOp.field_ref (off := 0) rfl (by kernel_rfl)) rfl rfl rfl ?_)) | refine AL.guard_skip rfl rfl rfl rfl rfl ?_)) <;> (first | (refine AL.guard_do rfl rfl rfl rfl ?_; refine AL.det (AOp.load_at rfl rfl (by kernel_rfl)) rfl rfl rfl ?_) | refine AL.guard_skip rfl rfl rfl rfl rfl ?_ | refine AL.guard_undef rfl rfl rfl rfl ?_ | (refine AL.guard_split rfl rfl rfl (fun hb => ?_) (fun hb => ?_) <;> first | (refine AL.guard_do rfl rfl rfl rfl ?_; refine AL.det (AOp.load_at rfl rfl (by kernel_rfl)) rfl rfl rfl ?_) | refine AL.guard_skip rfl rfl rfl rfl rfl ?_)) <;> (first | (refine AL.guard_do rfl rfl rfl rfl ?_; (first | refine AL.ev rfl rfl rfl rfl ?_ | refine AL.det (AOp.add rfl rfl (by omega)) rfl rfl rfl ?_ | refine AL.det (AOp.sub rfl rfl (by omega)) rfl rfl rfl ?_ | refine AL.det (AOp.bool_eq (by kernel_rfl) rfl rfl) rfl rfl rfl ?_ | refine AL.det (AOp.bool_ne (by kernel_rfl) rfl rfl) rfl rfl rfl ?_)) | refine AL.guard_skip rfl rfl rfl rfl rfl ?_ | refine AL.guard_undef rfl rfl rfl rfl ?_ | (refine AL.guard_split rfl rfl rfl (fun hb => ?_) (fun hb => ?_) <;> first | (refine AL.guard_do rfl rfl rfl rfl ?_; (first | refine AL.ev rfl rfl rfl rfl ?_ | refine AL.det (AOp.add rfl rfl (by omega)) rfl rfl rfl ?_ | refine AL.det (AOp.sub rfl rfl (by omega)) rfl rfl rfl ?_ | refine AL.det (AOp.bool_eq (by kernel_rfl) rfl rfl) rfl rfl rfl ?_ | refine AL.det (AOp.bool_ne (by kernel_rfl) rfl rfl) rfl rfl rfl ?_)) | refine AL.guard_skip rfl rfl rfl rfl rfl ?_)) <;> refine AL.ev rfl rfl rfl rfl ?_ <;> refine AL.ev rfl rfl rfl rfl ?_ <;> (first | (refine AL.guard_do rfl rfl rfl rfl ?_; (first | refine AL.det (AOp.field_at rfl rfl (by kernel_rfl) rfl) rfl rfl rfl ?_ | refine AL.det (AOp.field_ref (off := 0) rfl (by kernel_rfl)) rfl rfl rfl ?_)) | refine AL.guard_skip rfl rfl rfl rfl rfl ?_ | refine AL.guard_undef rfl rfl rfl rfl ?_ | (refine AL.guard_split rfl rfl rfl (fun hb => ?_) (fun hb => ?_) <;> first | (refine AL.guard_do rfl rfl rfl rfl ?_; (first | refine AL.det (AOp.field_at rfl rfl (by kernel_rfl) rfl) rfl rfl rfl ?_ | refine AL.det (AOp.field_ref (off := 0) rfl (by kernel_rfl)) rfl rfl rfl ?_)) | refine AL.guard_skip rfl rfl rfl rfl rfl ?_)) <;> (first | (refine AL.guard_do rfl rfl rfl rfl ?_; refine AL.det (AOp.load_at rfl rfl (by kernel_rfl)) rfl rfl rfl ?_) | refine AL.guard_skip rfl rfl rfl rfl rfl ?_ | refine AL.guard_undef rfl rfl rfl rfl ?_ | (refine AL.guard_split rfl rfl rfl (fun hb => ?_) (fun hb => ?_) <;> first | (refine AL.guard_do rfl rfl rfl rfl ?_; refine AL.det (AOp.load_at rfl rfl (by kernel_rfl)) rfl rfl rfl ?_) | refine AL.guard_skip rfl rfl rfl rfl rfl ?_)) <;> (first | (refine AL.guard_do rfl rfl rfl rfl ?_; (first | refine AL.ev rfl rfl rfl rfl ?_ | refine AL.det (AOp.add rfl rfl (by omega)) rfl rfl rfl ?_ | refine AL.det (AOp.sub rfl rfl (by omega)) rfl rfl rfl ?_ | refine AL.det (AOp.bool_eq (by kernel_rfl) rfl rfl) rfl rfl rfl ?_ | refine AL.det (AOp.bool_ne (by kernel_rfl) rfl rfl) rfl rfl rfl ?_)) | refine AL.guard_skip rfl rfl rfl rfl rfl ?_ | refine AL.guard_undef rfl rfl rfl rfl ?_ | (refine AL.guard_split rfl rfl rfl (fun hb => ?_) (fun hb => ?_) <;> first | (refine AL.guard_do rfl rfl rfl rfl ?_; (first | refine AL.ev rfl rfl rfl rfl ?_ | refine AL.det (AOp.add rfl rfl (by omega)) rfl rfl rfl ?_ | refine AL.det (AOp.sub rfl rfl (by omega)) rfl rfl rfl ?_ | refine AL.det (AOp.bool_eq (by kernel_rfl) rfl rfl) rfl rfl rfl ?_ | refine AL.det (AOp.bool_ne (by kernel_rfl) rfl rfl) rfl rfl rfl ?_)) | refine AL.guard_skip rfl rfl rfl rfl rfl ?_)) <;> refine AL.ev rfl rfl rfl rfl ?_ <;> refine AL.nil ?_)
      | (refine AW.region_at 5 ?_ <;> (first | refine AL.det (AOp.call rfl rfl hT) rfl rfl rfl ?_ | refine AL.det (AOp.call rfl rfl hA) rfl rfl rfl ?_) <;> refine AL.ev rfl rfl rfl rfl ?_ <;> refine AL.nil ?_)
      | refine AW.cond_true rfl ?_
      | refine AW.cond_false rfl ?_
      | refine AW.block ?_
      | refine AW.endblk ?_
      | refine AW.skip ?_
      | refine AW.exit rfl ?_
      | refine AW.label ?_
      | refine AW.cond rfl (fun hb => ?_) (fun hb => ?_))
    all_goals first
      | exact AW.retv rfl ⟨rfl, rfl⟩
      | (exfalso; simp only [decide_eq_true_eq, decide_eq_false_iff_not, bne_iff_ne, ne_eq, bne_eq_false_iff_eq] at *; exact ht ⟨by assumption, by omega, by omega⟩)
end Go.Proofs.Ytdedkpfbfklgbaa
