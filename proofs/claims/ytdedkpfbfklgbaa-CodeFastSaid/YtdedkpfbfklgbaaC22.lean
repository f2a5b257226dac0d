/- Contracts: the machine's statements with parts. -/
import Derived.Test.YtdedkpfbfklgbaaC21
namespace Go.Proofs.Ytdedkpfbfklgbaa
open Go.RowKit Go.SX
set_option maxRecDepth 100000
set_option maxHeartbeats 4000000
set_option linter.unusedVariables false
set_option linter.unusedSimpArgs false

section
variable {F R : Nat} {sig : ByteArray → Option Nat} {E : Env} {B : Blk}
/-- What is known of a list: running it. -/
def AllOk (F R : Nat) (sig : ByteArray → Option Nat) (E : Env) (B : Blk) (l : List GStmt) : Prop := ∀ m, MFit F R sig E B m → Tri Try.prog 27 [.ref B.mb 0, .sl (l.map GStmt.av)] (m.ah E B) (Post F R sig E B (.l l) m)
theorem mach_each (s : GStmt) (hs : Fit F R sig s) (hk : s.Kind = 7) (hb : AllOk F R sig E B s.Body) (m : MS) (hm : MFit F R sig E B m) :
    Tri Try.prog 53 [.ref B.mb 0, s.st] (m.ah E B) (Post F R sig E B (.s s) m) := by
  have hr := hs.r (by rw [hk]; rfl)
  have hn := hm.n
  refine Tri.enter 25 Try.func53 rfl rfl rfl rfl fun Fr w0 => ?_
  repeat' (first
    | refine AW.seq ?_
    | (refine AW.region_at 0 ?_ <;> refine AL.det (AOp.box_ro rfl rfl) rfl rfl rfl ?_ <;> refine AL.nil ?_)
    | (refine AW.region_at 1 ?_ <;> refine AL.ev rfl rfl rfl rfl ?_ <;> refine AL.ev rfl rfl rfl rfl ?_ <;> (first | refine AL.det (AOp.field_at rfl rfl (by kernel_rfl) rfl) rfl rfl rfl ?_ | refine AL.det (AOp.field_ref (off := 0) rfl (by kernel_rfl)) rfl rfl rfl ?_) <;> (first | refine AL.det (AOp.load_at rfl rfl (by kernel_rfl)) rfl rfl rfl ?_ | refine AL.det (AOp.load_leaf 0 rfl rfl rfl rfl (by kernel_rfl)) rfl rfl rfl ?_ | refine AL.det (AOp.load_all 0 rfl rfl rfl (by kernel_rfl)) rfl rfl rfl ?_) <;> refine AL.ev rfl rfl rfl rfl ?_ <;> refine AL.nil ?_)
    | refine AW.cond_true rfl ?_
    | refine AW.cond_false rfl ?_
    | refine AW.block ?_
    | refine AW.endblk ?_
    | refine AW.skip ?_
    | refine AW.exit rfl ?_
    | refine AW.label ?_
    | refine AW.cond rfl (fun hb => ?_) (fun hb => ?_))
  refine AW.prune [0, 3, 8, 9] (AW.loop (fun k af h => ∃ (i : Nat) (u : MS), (i : Int) ≤ E.n ∧ k = E.n.toNat - i ∧ af = [(0, .ref B.mb 0), (3, .at s.st), (8, .int .i64 E.n), (9, .int .i64 i)] ∧ h = u.ah E B ∧ MFit F R sig E B u ∧ m.steps ≤ u.steps ∧ ∀ o m', Ex E (.e s.R s.Body i) u o m' → Ex E (.s s) m o m') E.n.toNat ⟨0, m, by omega, rfl, rfl, rfl, hm, Int.le_refl _, fun o m' h => .each hk h⟩ ?_)
  rintro k af h ⟨i, u, hi, rfl, rfl, rfl, hu, hle, hx⟩
  refine AW.seq ?_
  by_cases hlt : (i : Int) < E.n
  · have hrl := hu.rlen
    have h2 := hb (u.setR s.R i) (hu.setR _ _ ⟨by omega, hlt⟩)
    have h3 : (u.setR s.R i).steps = u.steps := rfl
    have hset : (u.ah E B).set 2 (.row B.rb ((u.regs.map iav).set s.R.toNat (.int .i64 i))) = (u.setR s.R i).ah E B := by
      have h : (u.regs.map iav).set s.R.toNat (.int .i64 i) = (u.regs.set s.R.toNat i).map iav := by rw [List.map_set]; rfl
      have h2 : (u.regs.set s.R.toNat i).length = u.regs.length := by simp
      simp only [MS.ah, MS.setR, MS.box, List.set_cons_succ, List.set_cons_zero, h, h2]
      rfl
    repeat' (first
      | refine AW.seq ?_
      | (refine AW.region_at 2 ?_ <;> (first | refine AL.ev rfl rfl rfl rfl ?_ | refine AL.det (AOp.add rfl rfl (by omega)) rfl rfl rfl ?_ | refine AL.det (AOp.sub rfl rfl (by omega)) rfl rfl rfl ?_ | refine AL.det (AOp.bool_eq (by kernel_rfl) rfl rfl) rfl rfl rfl ?_ | refine AL.det (AOp.bool_ne (by kernel_rfl) rfl rfl) rfl rfl rfl ?_) <;> refine AL.nil ?_)
      | (refine AW.region_at 3 ?_ <;> refine AL.ev rfl rfl rfl rfl ?_ <;> refine AL.ev rfl rfl rfl rfl ?_ <;> refine AL.nil ?_)
      | (refine AW.draw_last_at 4 8 rfl (by kernel_rfl) (by kernel_rfl) (by kernel_rfl) (by kernel_rfl) ?_ <;> refine AQ.ev rfl rfl rfl rfl ?_ <;> refine AQ.ev rfl rfl rfl rfl ?_ <;> (first | refine AQ.op rfl (AOp.field_at rfl rfl (by kernel_rfl) rfl) rfl rfl ?_ | refine AQ.op rfl (AOp.field_ref (off := 2) rfl (by kernel_rfl)) rfl rfl ?_) <;> (first | refine AQ.op rfl (AOp.load_at rfl rfl (by kernel_rfl)) rfl rfl ?_ | refine AQ.op rfl (AOp.load_leaf 0 rfl rfl rfl rfl (by kernel_rfl)) rfl rfl ?_ | refine AQ.op rfl (AOp.load_all 0 rfl rfl rfl (by kernel_rfl)) rfl rfl ?_) <;> (first | refine AQ.op rfl (AOp.field_at rfl rfl (by kernel_rfl) rfl) rfl rfl ?_ | refine AQ.op rfl (AOp.field_ref (off := 3) rfl (by kernel_rfl)) rfl rfl ?_) <;> (first | refine AQ.op rfl (AOp.load_at rfl rfl (by kernel_rfl)) rfl rfl ?_ | refine AQ.op rfl (AOp.load_leaf 0 rfl rfl rfl rfl (by kernel_rfl)) rfl rfl ?_ | refine AQ.op rfl (AOp.load_all 0 rfl rfl rfl (by kernel_rfl)) rfl rfl ?_) <;> refine AQ.ev rfl rfl rfl rfl ?_ <;> refine AQ.op rfl (AOp.index_osl rfl rfl (by omega) (by omega) (by kernel_rfl)) rfl rfl ?_ <;> refine AQ.nil ?_ <;> (first | (refine AL.store_cell 2 rfl rfl rfl (by simp; omega) rfl rfl (by kernel_rfl) ?_) | refine AL.store_leaf 0 rfl rfl rfl rfl rfl (by kernel_rfl) ?_) <;> refine AL.nil ?_)
      | refine AW.cond_true rfl ?_
      | refine AW.cond_false rfl ?_
      | refine AW.block ?_
      | refine AW.endblk ?_
      | refine AW.skip ?_
      | refine AW.exit rfl ?_
      | refine AW.label ?_
      | refine AW.cond rfl (fun hb => ?_) (fun hb => ?_))
    all_goals try (exfalso; simp only [decide_eq_true_eq, decide_eq_false_iff_not, List.length_map] at *; omega)
    refine AW.frame_eq rfl hset ?_
    repeat' (first
      | refine AW.seq ?_
      | (refine AW.region_at 5 ?_ <;> refine AL.ev rfl rfl rfl rfl ?_ <;> (first | refine AL.det (AOp.field_at rfl rfl (by kernel_rfl) rfl) rfl rfl rfl ?_ | refine AL.det (AOp.field_ref (off := 12) rfl (by kernel_rfl)) rfl rfl rfl ?_) <;> refine AL.det (AOp.load_at rfl rfl (by kernel_rfl)) rfl rfl rfl ?_ <;> refine AL.callPost rfl rfl h2 rfl (fun m' hex hfit hle2 => ?_) (fun e m' hex hfit hle2 => APan.of ⟨_, m', hx _ _ (.ebad hlt hex), hfit, by omega, rfl, rfl⟩) <;> refine AL.nil ?_)
      | (refine AW.region_at 6 ?_ <;> (first | refine AL.ev rfl rfl rfl rfl ?_ | refine AL.det (AOp.add rfl rfl (by omega)) rfl rfl rfl ?_ | refine AL.det (AOp.sub rfl rfl (by omega)) rfl rfl rfl ?_ | refine AL.det (AOp.bool_eq (by kernel_rfl) rfl rfl) rfl rfl rfl ?_ | refine AL.det (AOp.bool_ne (by kernel_rfl) rfl rfl) rfl rfl rfl ?_) <;> refine AL.ev rfl rfl rfl rfl ?_ <;> refine AL.nil ?_)
      | refine AW.cond_true rfl ?_
      | refine AW.cond_false rfl ?_
      | refine AW.block ?_
      | refine AW.endblk ?_
      | refine AW.skip ?_
      | refine AW.exit rfl ?_
      | refine AW.label ?_
      | refine AW.cond rfl (fun hb => ?_) (fun hb => ?_))
    exact AW.again_keep (E.n.toNat - (i + 1)) [0, 3, 8, 9] (by omega) ⟨i + 1, m', by omega, rfl, rfl, rfl, hfit, by omega, fun o m2 h => hx o m2 (.estep hlt hex h)⟩
  · repeat' (first
      | refine AW.seq ?_
      | (refine AW.region_at 2 ?_ <;> (first | refine AL.ev rfl rfl rfl rfl ?_ | refine AL.det (AOp.add rfl rfl (by omega)) rfl rfl rfl ?_ | refine AL.det (AOp.sub rfl rfl (by omega)) rfl rfl rfl ?_ | refine AL.det (AOp.bool_eq (by kernel_rfl) rfl rfl) rfl rfl rfl ?_ | refine AL.det (AOp.bool_ne (by kernel_rfl) rfl rfl) rfl rfl rfl ?_) <;> refine AL.nil ?_)
      | refine AW.cond_true rfl ?_
      | refine AW.cond_false rfl ?_
      | refine AW.block ?_
      | refine AW.endblk ?_
      | refine AW.skip ?_
      | refine AW.exit rfl ?_
      | refine AW.label ?_
      | refine AW.cond rfl (fun hb => ?_) (fun hb => ?_))
    all_goals first
      | (exfalso; simp only [decide_eq_true_eq, decide_eq_false_iff_not, List.length_map] at *; omega)
      | exact AW.donev rfl ⟨none, u, hx _ _ (.eend hlt), hu, hle, rfl, rfl⟩
theorem mach_if (s : GStmt) (hs : Fit F R sig s) (hk : s.Kind = 8) (hbd : AllOk F R sig E B s.Body) (he : AllOk F R sig E B s.Else) (m : MS) (hm : MFit F R sig E B m) :
    Tri Try.prog 54 [.ref B.mb 0, s.st] (m.ah E B) (Post F R sig E B (.s s) m) := by
  have hf := hs.f (by rw [hk]; rfl)
  have hfl := hm.flen
  have g0 := flag_get (fl := m.flags) (x := s.F) (by omega)
  have h1 := hbd m hm
  have h2 := he m hm
  refine Tri.enter 20 Try.func54 rfl rfl rfl rfl fun Fr w0 => ?_
  repeat' (first
    | refine AW.seq ?_
    | (refine AW.region_at 0 ?_ <;> refine AL.det (AOp.box_ro rfl rfl) rfl rfl rfl ?_ <;> refine AL.nil ?_)
    | (refine AW.draw_at 1 rfl (by kernel_rfl) (by kernel_rfl) ?_ <;> refine AQ.ev rfl rfl rfl rfl ?_ <;> refine AQ.ev rfl rfl rfl rfl ?_ <;> (first | refine AQ.op rfl (AOp.field_at rfl rfl (by kernel_rfl) rfl) rfl rfl ?_ | refine AQ.op rfl (AOp.field_ref (off := 1) rfl (by kernel_rfl)) rfl rfl ?_) <;> (first | refine AQ.op rfl (AOp.load_cell 1 rfl rfl g0 rfl (by kernel_rfl)) rfl rfl ?_ | refine AQ.op rfl (AOp.load_at rfl rfl (by kernel_rfl)) rfl rfl ?_ | refine AQ.op rfl (AOp.load_leaf 0 rfl rfl rfl rfl (by kernel_rfl)) rfl rfl ?_ | refine AQ.op rfl (AOp.load_all 0 rfl rfl rfl (by kernel_rfl)) rfl rfl ?_) <;> (first | refine AQ.op rfl (AOp.field_at rfl rfl (by kernel_rfl) rfl) rfl rfl ?_ | refine AQ.op rfl (AOp.field_ref (off := 1) rfl (by kernel_rfl)) rfl rfl ?_) <;> (first | refine AQ.op rfl (AOp.load_cell 1 rfl rfl g0 rfl (by kernel_rfl)) rfl rfl ?_ | refine AQ.op rfl (AOp.load_at rfl rfl (by kernel_rfl)) rfl rfl ?_ | refine AQ.op rfl (AOp.load_leaf 0 rfl rfl rfl rfl (by kernel_rfl)) rfl rfl ?_ | refine AQ.op rfl (AOp.load_all 0 rfl rfl rfl (by kernel_rfl)) rfl rfl ?_) <;> refine AQ.op rfl (AOp.index_osl rfl rfl (by omega) (by omega) (by kernel_rfl)) rfl rfl ?_ <;> (first | refine AQ.op rfl (AOp.load_cell 1 rfl rfl g0 rfl (by kernel_rfl)) rfl rfl ?_ | refine AQ.op rfl (AOp.load_at rfl rfl (by kernel_rfl)) rfl rfl ?_ | refine AQ.op rfl (AOp.load_leaf 0 rfl rfl rfl rfl (by kernel_rfl)) rfl rfl ?_ | refine AQ.op rfl (AOp.load_all 0 rfl rfl rfl (by kernel_rfl)) rfl rfl ?_) <;> refine AQ.nil ?_)
    | refine AW.cond_true rfl ?_
    | refine AW.cond_false rfl ?_
    | refine AW.block ?_
    | refine AW.endblk ?_
    | refine AW.skip ?_
    | refine AW.exit rfl ?_
    | refine AW.label ?_
    | refine AW.cond rfl (fun hb => ?_) (fun hb => ?_))
  · repeat' (first
      | refine AW.seq ?_
      | (refine AW.region_at 2 ?_ <;> refine AL.ev rfl rfl rfl rfl ?_ <;> (first | refine AL.det (AOp.field_at rfl rfl (by kernel_rfl) rfl) rfl rfl rfl ?_ | refine AL.det (AOp.field_ref (off := 12) rfl (by kernel_rfl)) rfl rfl rfl ?_) <;> refine AL.det (AOp.load_at rfl rfl (by kernel_rfl)) rfl rfl rfl ?_ <;> refine AL.callPost rfl rfl h1 rfl (fun m' hex hfit hle2 => ?_) (fun e m' hex hfit hle2 => APan.of ⟨_, m', .cond hk (by rw [if_pos hb]; exact hex), hfit, hle2, rfl, rfl⟩) <;> refine AL.nil ?_)
      | refine AW.cond_true rfl ?_
      | refine AW.cond_false rfl ?_
      | refine AW.block ?_
      | refine AW.endblk ?_
      | refine AW.skip ?_
      | refine AW.exit rfl ?_
      | refine AW.label ?_
      | refine AW.cond rfl (fun hb => ?_) (fun hb => ?_))
    exact AW.donev rfl ⟨none, m', .cond hk (by rw [if_pos hb]; exact hex), hfit, hle2, rfl, rfl⟩
  · repeat' (first
      | refine AW.seq ?_
      | (refine AW.region_at 3 ?_ <;> refine AL.ev rfl rfl rfl rfl ?_ <;> (first | refine AL.det (AOp.field_at rfl rfl (by kernel_rfl) rfl) rfl rfl rfl ?_ | refine AL.det (AOp.field_ref (off := 13) rfl (by kernel_rfl)) rfl rfl rfl ?_) <;> refine AL.det (AOp.load_at rfl rfl (by kernel_rfl)) rfl rfl rfl ?_ <;> refine AL.callPost rfl rfl h2 rfl (fun m' hex hfit hle2 => ?_) (fun e m' hex hfit hle2 => APan.of ⟨_, m', .cond hk (by rw [if_neg (by simp [hb])]; exact hex), hfit, hle2, rfl, rfl⟩) <;> refine AL.nil ?_)
      | refine AW.cond_true rfl ?_
      | refine AW.cond_false rfl ?_
      | refine AW.block ?_
      | refine AW.endblk ?_
      | refine AW.skip ?_
      | refine AW.exit rfl ?_
      | refine AW.label ?_
      | refine AW.cond rfl (fun hb => ?_) (fun hb => ?_))
    exact AW.donev rfl ⟨none, m', .cond hk (by rw [if_neg (by simp [hb])]; exact hex), hfit, hle2, rfl, rfl⟩
theorem mach_until (s : GStmt) (hs : Fit F R sig s) (hk : s.Kind = 10) (hbd : AllOk F R sig E B s.Body) (m : MS) (hm : MFit F R sig E B m) :
    Tri Try.prog 56 [.ref B.mb 0, s.st] (m.ah E B) (Post F R sig E B (.s s) m) := by
  have hf := hs.f (by rw [hk]; rfl)
  have h1 := hbd m hm
  have hfu := hm.fuel
  refine Tri.enter 23 Try.func56 rfl rfl rfl rfl fun Fr w0 => ?_
  repeat' (first
    | refine AW.seq ?_
    | (refine AW.region_at 0 ?_ <;> refine AL.det (AOp.box_ro rfl rfl) rfl rfl rfl ?_ <;> refine AL.nil ?_)
    | (refine AW.region_at 1 ?_ <;> refine AL.ev rfl rfl rfl rfl ?_ <;> (first | refine AL.det (AOp.field_at rfl rfl (by kernel_rfl) rfl) rfl rfl rfl ?_ | refine AL.det (AOp.field_ref (off := 12) rfl (by kernel_rfl)) rfl rfl rfl ?_) <;> (first | refine AL.det (AOp.load_at rfl rfl (by kernel_rfl)) rfl rfl rfl ?_ | refine AL.det (AOp.load_leaf 0 rfl rfl rfl rfl (by kernel_rfl)) rfl rfl rfl ?_ | refine AL.det (AOp.load_all 0 rfl rfl rfl (by kernel_rfl)) rfl rfl rfl ?_) <;> refine AL.callPost rfl rfl h1 rfl (fun m' hex hfit hle2 => ?_) (fun e m' hex hfit hle2 => APan.of ⟨_, m', .ubad hk hex, hfit, hle2, rfl, rfl⟩) <;> refine AL.nil ?_)
    | refine AW.cond_true rfl ?_
    | refine AW.cond_false rfl ?_
    | refine AW.block ?_
    | refine AW.endblk ?_
    | refine AW.skip ?_
    | refine AW.exit rfl ?_
    | refine AW.label ?_
    | refine AW.cond rfl (fun hb => ?_) (fun hb => ?_))
  refine AW.prune [0, 3] (AW.loop (fun k af h => ∃ (v u : MS), k = (E.fuel - u.steps).toNat ∧ af = [(0, .ref B.mb 0), (3, .at s.st)] ∧ h = u.ah E B ∧ MFit F R sig E B u ∧ m.steps ≤ u.steps ∧ Ex E (.l s.Body) v none u ∧ ∀ o m2, Ex E (.s s) v o m2 → Ex E (.s s) m o m2) (E.fuel - m'.steps).toNat ⟨m, m', rfl, rfl, rfl, hfit, hle2, hex, fun o m2 h => h⟩ ?_)
  rintro k af h ⟨v, u, rfl, rfl, rfl, hu, hle, hex2, hx⟩
  refine AW.seq ?_
  have hfl := hu.flen
  have g0 := flag_get (fl := u.flags) (x := s.F) (by omega)
  have hus := hu.steps
  repeat' (first
    | refine AW.seq ?_
    | (refine AW.draw_at 2 rfl (by kernel_rfl) (by kernel_rfl) ?_ <;> refine AQ.ev rfl rfl rfl rfl ?_ <;> refine AQ.ev rfl rfl rfl rfl ?_ <;> (first | refine AQ.op rfl (AOp.field_at rfl rfl (by kernel_rfl) rfl) rfl rfl ?_ | refine AQ.op rfl (AOp.field_ref (off := 1) rfl (by kernel_rfl)) rfl rfl ?_) <;> (first | refine AQ.op rfl (AOp.load_cell 1 rfl rfl g0 rfl (by kernel_rfl)) rfl rfl ?_ | refine AQ.op rfl (AOp.load_at rfl rfl (by kernel_rfl)) rfl rfl ?_ | refine AQ.op rfl (AOp.load_leaf 0 rfl rfl rfl rfl (by kernel_rfl)) rfl rfl ?_ | refine AQ.op rfl (AOp.load_all 0 rfl rfl rfl (by kernel_rfl)) rfl rfl ?_) <;> (first | refine AQ.op rfl (AOp.field_at rfl rfl (by kernel_rfl) rfl) rfl rfl ?_ | refine AQ.op rfl (AOp.field_ref (off := 1) rfl (by kernel_rfl)) rfl rfl ?_) <;> (first | refine AQ.op rfl (AOp.load_cell 1 rfl rfl g0 rfl (by kernel_rfl)) rfl rfl ?_ | refine AQ.op rfl (AOp.load_at rfl rfl (by kernel_rfl)) rfl rfl ?_ | refine AQ.op rfl (AOp.load_leaf 0 rfl rfl rfl rfl (by kernel_rfl)) rfl rfl ?_ | refine AQ.op rfl (AOp.load_all 0 rfl rfl rfl (by kernel_rfl)) rfl rfl ?_) <;> refine AQ.op rfl (AOp.index_osl rfl rfl (by omega) (by omega) (by kernel_rfl)) rfl rfl ?_ <;> (first | refine AQ.op rfl (AOp.load_cell 1 rfl rfl g0 rfl (by kernel_rfl)) rfl rfl ?_ | refine AQ.op rfl (AOp.load_at rfl rfl (by kernel_rfl)) rfl rfl ?_ | refine AQ.op rfl (AOp.load_leaf 0 rfl rfl rfl rfl (by kernel_rfl)) rfl rfl ?_ | refine AQ.op rfl (AOp.load_all 0 rfl rfl rfl (by kernel_rfl)) rfl rfl ?_) <;> refine AQ.ev rfl rfl rfl rfl ?_ <;> refine AQ.nil ?_)
    | refine AW.cond_true rfl ?_
    | refine AW.cond_false rfl ?_
    | refine AW.block ?_
    | refine AW.endblk ?_
    | refine AW.skip ?_
    | refine AW.exit rfl ?_
    | refine AW.label ?_
    | refine AW.cond rfl (fun hb => ?_) (fun hb => ?_))
  · have hfg : flagAt u.flags s.F = false := by simpa using hb
    by_cases hst : u.steps < E.fuel
    · have h3 := mach_step_ok hu hst
      have h4 := hbd u.step (hu.step hst)
      have h5 : u.step.steps = u.steps + 1 := rfl
      repeat' (first
        | refine AW.seq ?_
        | (refine AW.region_at 3 ?_ <;> refine AL.ev rfl rfl rfl rfl ?_ <;> refine AL.det (AOp.call rfl rfl h3) rfl rfl rfl ?_ <;> refine AL.nil ?_)
        | refine AW.cond_true rfl ?_
        | refine AW.cond_false rfl ?_
        | refine AW.block ?_
        | refine AW.endblk ?_
        | refine AW.skip ?_
        | refine AW.exit rfl ?_
        | refine AW.label ?_
        | refine AW.cond rfl (fun hb => ?_) (fun hb => ?_))
      repeat' (first
        | refine AW.seq ?_
        | (refine AW.region_at 4 ?_ <;> refine AL.ev rfl rfl rfl rfl ?_ <;> (first | refine AL.det (AOp.field_at rfl rfl (by kernel_rfl) rfl) rfl rfl rfl ?_ | refine AL.det (AOp.field_ref (off := 12) rfl (by kernel_rfl)) rfl rfl rfl ?_) <;> refine AL.det (AOp.load_at rfl rfl (by kernel_rfl)) rfl rfl rfl ?_ <;> refine AL.callPost rfl rfl h4 rfl (fun m'' hex' hfit' hle' => ?_) (fun e m'' hex' hfit' hle' => APan.of ⟨_, m'', hx _ _ (.ustep hk hex2 hfg hst (.ubad hk hex')), hfit', by omega, rfl, rfl⟩) <;> refine AL.nil ?_)
        | refine AW.cond_true rfl ?_
        | refine AW.cond_false rfl ?_
        | refine AW.block ?_
        | refine AW.endblk ?_
        | refine AW.skip ?_
        | refine AW.exit rfl ?_
        | refine AW.label ?_
        | refine AW.cond rfl (fun hb => ?_) (fun hb => ?_))
      have := hfit'.steps
      exact AW.again_keep (E.fuel - m''.steps).toNat [0, 3] (by omega) ⟨u.step, m'', rfl, rfl, rfl, hfit', by omega, hex', fun o m2 h => hx o m2 (.ustep hk hex2 hfg hst h)⟩
    · have h3 := mach_step_bad hu hst
      repeat' (first
        | refine AW.seq ?_
        | (refine AW.region_at 3 ?_ <;> refine AL.ev rfl rfl rfl rfl ?_ <;> exact AL.callStop rfl rfl h3 rfl (APan.of ⟨some 7, u, hx _ _ (.ustop hk hex2 hfg hst), hu, hle, rfl, rfl⟩) <;> refine AL.nil ?_)
        | refine AW.cond_true rfl ?_
        | refine AW.cond_false rfl ?_
        | refine AW.block ?_
        | refine AW.endblk ?_
        | refine AW.skip ?_
        | refine AW.exit rfl ?_
        | refine AW.label ?_
        | refine AW.cond rfl (fun hb => ?_) (fun hb => ?_))
  · have hfg : flagAt u.flags s.F = true := by simpa using hb
    repeat' (first
      | refine AW.seq ?_
      | refine AW.cond_true rfl ?_
      | refine AW.cond_false rfl ?_
      | refine AW.block ?_
      | refine AW.endblk ?_
      | refine AW.skip ?_
      | refine AW.exit rfl ?_
      | refine AW.label ?_
      | refine AW.cond rfl (fun hb => ?_) (fun hb => ?_))
    exact AW.donev rfl ⟨none, u, hx _ _ (.uend hk hex2 hfg), hu, hle, rfl, rfl⟩
end
end Go.Proofs.Ytdedkpfbfklgbaa
