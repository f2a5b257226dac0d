/- Contracts: lists of statements, run. -/
import Derived.Test.YtdedkpfbfklgbaaC20
namespace Go.Proofs.Ytdedkpfbfklgbaa
open Go.RowKit Go.SX
set_option maxRecDepth 100000
set_option maxHeartbeats 4000000
set_option linter.unusedVariables false
set_option linter.unusedSimpArgs false

section
variable {C : Cx} {ds : List Deferred} {ks : List K} {af : AF} {ah : AH} {ops : Array Oper} {rest : List Oper}
theorem AL.callPost {F R : Nat} {sig : ByteArray → Option Nat} {E : Env} {B : Blk} {m : MS} {t : Task} {d : Option Tmp} {T : TypeId} {ps : String} {es : Array Edge} {f : FuncId} {y : Operand} {caps : List AV} {xs : Array Operand} {tys : Array TypeId} {args : List AV}
    (hy : aeval af y = some (.fn f caps)) (hx : aevals af xs.toList = some args) (h : Tri C.P f (args ++ caps) ah (Post F R sig E B t m)) (hd : okDst d C.n = true)
    (hk : ∀ m', Ex E t m none m' → MFit F R sig E B m' → m.steps ≤ m'.steps → AL C ds ks ops rest (put af d (.tup [])) (m'.ah E B)) (hp : ∀ e m', Ex E t m (some e) m' → MFit F R sig E B m' → m.steps ≤ m'.steps → APan C ds (stopV e) (m'.ah E B)) :
    AL C ds ks ops (⟨d, .call ⟨.value y, xs, tys⟩, T, ps, es, none⟩ :: rest) af ah := by
  refine AL.callQ hy hx h hd ?_ ?_
  · rintro v ah' ⟨o, m', hex, hfit, hle, rfl, hend⟩
    cases o with
    | none => cases hend; exact hk m' hex hfit hle
    | some e => cases hend
  · rintro v ah' ⟨o, m', hex, hfit, hle, rfl, hend⟩
    cases o with
    | none => cases hend
    | some e => cases hend; exact hp e m' hex hfit hle
theorem AL.callStop {E : Env} {B : Blk} {m : MS} {e : Int} {d : Option Tmp} {T : TypeId} {ps : String} {es : Array Edge} {f : FuncId} {y : Operand} {caps : List AV} {xs : Array Operand} {tys : Array TypeId} {args : List AV}
    (hy : aeval af y = some (.fn f caps)) (hx : aevals af xs.toList = some args) (h : Tri C.P f (args ++ caps) ah (fun x h => x = .pan (stopV e) ∧ h = m.ah E B)) (hd : okDst d C.n = true)
    (hp : APan C ds (stopV e) (m.ah E B)) : AL C ds ks ops (⟨d, .call ⟨.value y, xs, tys⟩, T, ps, es, none⟩ :: rest) af ah := by
  refine AL.callQ hy hx h hd ?_ ?_
  · rintro v ah' ⟨h1, _⟩; cases h1
  · rintro v ah' ⟨h1, rfl⟩; cases h1; exact hp
end
theorem SFit.fit {F R : Nat} {sig : ByteArray → Option Nat} {s : GStmt} (h : SFit F R sig s) : Fit F R sig s := by cases h; assumption
theorem SFit.body {F R : Nat} {sig : ByteArray → Option Nat} {s : GStmt} (h : SFit F R sig s) : ∀ x ∈ s.Body, SFit F R sig x := by cases h; assumption
theorem SFit.els {F R : Nat} {sig : ByteArray → Option Nat} {s : GStmt} (h : SFit F R sig s) : ∀ x ∈ s.Else, SFit F R sig x := by cases h; assumption
section
variable {F R : Nat} {sig : ByteArray → Option Nat} {E : Env} {B : Blk} {m : MS}
theorem mach_all (l : List GStmt) (hl : l.length ≤ 4611686018427387904) (hs : ∀ x ∈ l, SFit F R sig x)
    (ih : ∀ x ∈ l, ∀ m, MFit F R sig E B m → Tri Try.prog (fnOf x.Kind) [.ref B.mb 0, x.st] (m.ah E B) (Post F R sig E B (.s x) m))
    (m : MS) (hm : MFit F R sig E B m) : Tri Try.prog 27 [.ref B.mb 0, .sl (l.map GStmt.av)] (m.ah E B) (Post F R sig E B (.l l) m) := by
  refine Tri.enter 25 Try.func27 rfl rfl rfl rfl fun Fr w0 => ?_
  repeat' (first
    | refine AW.seq ?_
    | (refine AW.region_at 0 ?_ <;> refine AL.ev rfl rfl rfl rfl ?_ <;> refine AL.det (AOp.len rfl rfl (by kernel_rfl)) rfl rfl rfl ?_ <;> refine AL.ev rfl rfl rfl rfl ?_ <;> refine AL.nil ?_)
    | refine AW.cond_true rfl ?_
    | refine AW.cond_false rfl ?_
    | refine AW.block ?_
    | refine AW.endblk ?_
    | refine AW.skip ?_
    | refine AW.exit rfl ?_
    | refine AW.label ?_
    | refine AW.cond rfl (fun hb => ?_) (fun hb => ?_))
  refine AW.prune [0, 6, 7, 8] (AW.loop (fun k af h => ∃ (i : Nat) (u : MS), i ≤ l.length ∧ k = l.length - i ∧ af = [(0, .ref B.mb 0), (6, .sl (l.map GStmt.av)), (7, .int .i64 (l.map GStmt.av).length), (8, .int .i64 i)] ∧ h = u.ah E B ∧ MFit F R sig E B u ∧ m.steps ≤ u.steps ∧ ∀ o m', Ex E (.l (l.drop i)) u o m' → Ex E (.l l) m o m') l.length ⟨0, m, Nat.zero_le _, rfl, rfl, rfl, hm, Int.le_refl _, fun o m' h => h⟩ ?_)
  rintro k af h ⟨i, u, hi, rfl, rfl, rfl, hu, hle, hx⟩
  refine AW.seq ?_
  by_cases hlt : i < l.length
  · obtain ⟨x, hxg⟩ := get_lt hlt
    have hx' : (l.map GStmt.av)[((i : Nat) : Int).toNat]? = some x.st := GStmt.get hxg
    have hxm := List.mem_of_getElem? hxg
    rw [drop_cons hxg] at hx
    repeat' (first
      | refine AW.seq ?_
      | (refine AW.region_at 1 ?_ <;> (first | refine AL.ev rfl rfl rfl rfl ?_ | refine AL.det (AOp.add rfl rfl (by omega)) rfl rfl rfl ?_ | refine AL.det (AOp.sub rfl rfl (by omega)) rfl rfl rfl ?_ | refine AL.det (AOp.bool_eq (by kernel_rfl) rfl rfl) rfl rfl rfl ?_ | refine AL.det (AOp.bool_ne (by kernel_rfl) rfl rfl) rfl rfl rfl ?_) <;> refine AL.nil ?_)
      | (refine AW.region_at 2 ?_ <;> refine AL.det (AOp.index_sl rfl rfl (by omega) hx' (by kernel_rfl) rfl) rfl rfl rfl ?_ <;> refine AL.det (AOp.load_at rfl rfl (by kernel_rfl)) rfl rfl rfl ?_ <;> refine AL.alloc_store (by kernel_rfl) rfl rfl rfl rfl ?_ <;> refine AL.nil ?_)
      | refine AW.cond_true rfl ?_
      | refine AW.cond_false rfl ?_
      | refine AW.block ?_
      | refine AW.endblk ?_
      | refine AW.skip ?_
      | refine AW.exit rfl ?_
      | refine AW.label ?_
      | refine AW.cond rfl (fun hb => ?_) (fun hb => ?_))
    all_goals try (exfalso; simp only [decide_eq_true_eq, decide_eq_false_iff_not, List.length_map] at *; omega)
    by_cases hst : u.steps < E.fuel
    · have h1 := mach_step_ok hu hst
      have h2 := ih x hxm u.step (hu.step hst)
      have hk : 0 ≤ x.Kind ∧ x.Kind < 15 := (hs x hxm).fit.kind
      obtain ⟨j, hj⟩ := find_run hk
      have h3 : u.step.steps = u.steps + 1 := rfl
      repeat' (first
        | refine AW.seq ?_
        | (refine AW.region_at 3 ?_ <;> refine AL.ev rfl rfl rfl rfl ?_ <;> refine AL.det (AOp.call rfl rfl h1) rfl rfl rfl ?_ <;> refine AL.nil ?_)
        | refine AW.cond_true rfl ?_
        | refine AW.cond_false rfl ?_
        | refine AW.block ?_
        | refine AW.endblk ?_
        | refine AW.skip ?_
        | refine AW.exit rfl ?_
        | refine AW.label ?_
        | refine AW.cond rfl (fun hb => ?_) (fun hb => ?_))
      repeat' (first
        | refine AW.seq ?_
        | (refine AW.draw_last_at 4 9 rfl (by kernel_rfl) (by kernel_rfl) (by kernel_rfl) (by kernel_rfl) ?_ <;> refine AQ.ev rfl rfl rfl rfl ?_ <;> refine AQ.ev rfl rfl rfl rfl ?_ <;> (first | refine AQ.op rfl (AOp.field_at rfl rfl (by kernel_rfl) rfl) rfl rfl ?_ | refine AQ.op rfl (AOp.field_ref (off := 8) rfl (by kernel_rfl)) rfl rfl ?_) <;> (first | refine AQ.op rfl (AOp.load_at rfl rfl (by kernel_rfl)) rfl rfl ?_ | refine AQ.op rfl (AOp.load_leaf 0 rfl rfl rfl rfl (by kernel_rfl)) rfl rfl ?_ | refine AQ.op rfl (AOp.load_all 0 rfl rfl rfl (by kernel_rfl)) rfl rfl ?_) <;> (first | refine AQ.op rfl (AOp.field_at rfl rfl (by kernel_rfl) rfl) rfl rfl ?_ | refine AQ.op rfl (AOp.field_ref (off := 0) rfl (by kernel_rfl)) rfl rfl ?_) <;> (first | refine AQ.op rfl (AOp.load_at rfl rfl (by kernel_rfl)) rfl rfl ?_ | refine AQ.op rfl (AOp.load_leaf 0 rfl rfl rfl rfl (by kernel_rfl)) rfl rfl ?_ | refine AQ.op rfl (AOp.load_all 0 rfl rfl rfl (by kernel_rfl)) rfl rfl ?_) <;> refine AQ.op rfl (AOp.lookup_hit (i := 4) (kd := .int .i64) (e := 98) (ok := false) rfl rfl rfl (by kernel_rfl) rfl rfl hj) rfl rfl ?_ <;> refine AQ.ev rfl rfl rfl rfl ?_ <;> (first | refine AQ.op rfl (AOp.load_at rfl rfl (by kernel_rfl)) rfl rfl ?_ | refine AQ.op rfl (AOp.load_leaf 0 rfl rfl rfl rfl (by kernel_rfl)) rfl rfl ?_ | refine AQ.op rfl (AOp.load_all 0 rfl rfl rfl (by kernel_rfl)) rfl rfl ?_) <;> refine AQ.nil ?_ <;> refine AL.callPost rfl rfl h2 rfl (fun m' hex hfit hle2 => ?_) (fun e m' hex hfit hle2 => APan.of ⟨_, m', hx _ _ (.bad hst hex), hfit, by omega, rfl, rfl⟩) <;> refine AL.nil ?_)
        | (refine AW.region_at 5 ?_ <;> (first | refine AL.ev rfl rfl rfl rfl ?_ | refine AL.det (AOp.add rfl rfl (by omega)) rfl rfl rfl ?_ | refine AL.det (AOp.sub rfl rfl (by omega)) rfl rfl rfl ?_ | refine AL.det (AOp.bool_eq (by kernel_rfl) rfl rfl) rfl rfl rfl ?_ | refine AL.det (AOp.bool_ne (by kernel_rfl) rfl rfl) rfl rfl rfl ?_) <;> refine AL.ev rfl rfl rfl rfl ?_ <;> refine AL.nil ?_)
        | refine AW.cond_true rfl ?_
        | refine AW.cond_false rfl ?_
        | refine AW.block ?_
        | refine AW.endblk ?_
        | refine AW.skip ?_
        | refine AW.exit rfl ?_
        | refine AW.label ?_
        | refine AW.cond rfl (fun hb => ?_) (fun hb => ?_))
      exact AW.again_keep (l.length - (i + 1)) [0, 6, 7, 8] (by omega) ⟨i + 1, m', hlt, rfl, rfl, rfl, hfit, by omega, fun o m2 h => hx o m2 (.cons hst hex h)⟩
    · have h1 := mach_step_bad hu hst
      repeat' (first
        | refine AW.seq ?_
        | (refine AW.region_at 3 ?_ <;> refine AL.ev rfl rfl rfl rfl ?_ <;> exact AL.callStop rfl rfl h1 rfl (APan.of ⟨some 7, u, hx _ _ (.stop hst), hu, hle, rfl, rfl⟩) <;> refine AL.nil ?_)
        | refine AW.cond_true rfl ?_
        | refine AW.cond_false rfl ?_
        | refine AW.block ?_
        | refine AW.endblk ?_
        | refine AW.skip ?_
        | refine AW.exit rfl ?_
        | refine AW.label ?_
        | refine AW.cond rfl (fun hb => ?_) (fun hb => ?_))
  · rw [List.drop_eq_nil_of_le (by omega)] at hx
    repeat' (first
      | refine AW.seq ?_
      | (refine AW.region_at 1 ?_ <;> (first | refine AL.ev rfl rfl rfl rfl ?_ | refine AL.det (AOp.add rfl rfl (by omega)) rfl rfl rfl ?_ | refine AL.det (AOp.sub rfl rfl (by omega)) rfl rfl rfl ?_ | refine AL.det (AOp.bool_eq (by kernel_rfl) rfl rfl) rfl rfl rfl ?_ | refine AL.det (AOp.bool_ne (by kernel_rfl) rfl rfl) rfl rfl rfl ?_) <;> refine AL.nil ?_)
      | refine AW.cond_true rfl ?_
      | refine AW.cond_false rfl ?_
      | refine AW.block ?_
      | refine AW.endblk ?_
      | refine AW.skip ?_
      | refine AW.exit rfl ?_
      | refine AW.label ?_
      | refine AW.cond rfl (fun hb => ?_) (fun hb => ?_))
    all_goals first
      | (exfalso; simp only [decide_eq_true_eq, decide_eq_false_iff_not, List.length_map] at *; omega)
      | exact AW.donev rfl ⟨none, u, hx _ _ .nil, hu, hle, rfl, rfl⟩
end
end Go.Proofs.Ytdedkpfbfklgbaa
