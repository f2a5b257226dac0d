/- Contracts: loops whose rounds are counted; all statements. -/
import Derived.Test.YtdedkpfbfklgbaaC22
import Derived.Test.YtdedkpfbfklgbaaS2
namespace Go.Proofs.Ytdedkpfbfklgbaa
open Go.RowKit Go.SX
set_option maxRecDepth 100000
set_option maxHeartbeats 4000000
set_option linter.unusedVariables false
set_option linter.unusedSimpArgs false

section
variable {F R : Nat} {sig : ByteArray → Option Nat} {E : Env} {B : Blk}
/-- As Post, with more behind. -/
def PostB (F R : Nat) (sig : ByteArray → Option Nat) (E : Env) (B : Blk) (b : AH) (T : Task) (m : MS) : AEnd → AH → Prop := fun x h => ∃ h1, Post F R sig E B T m x h1 ∧ h = h1 ++ b
variable {C : Cx} {ds : List Deferred} {ks : List K} {af : AF} {ah : AH} {ops : Array Oper} {rest : List Oper}
theorem AL.callPostB {m : MS} {b : AH} {t : Task} {d : Option Tmp} {T : TypeId} {ps : String} {es : Array Edge} {f : FuncId} {y : Operand} {caps : List AV} {xs : Array Operand} {tys : Array TypeId} {args : List AV}
    (hy : aeval af y = some (.fn f caps)) (hx : aevals af xs.toList = some args) (h : Tri C.P f (args ++ caps) ah (PostB F R sig E B b t m)) (hd : okDst d C.n = true)
    (hk : ∀ m', Ex E t m none m' → MFit F R sig E B m' → m.steps ≤ m'.steps → AL C ds ks ops rest (put af d (.tup [])) (m'.ah E B ++ b)) (hp : ∀ e m', Ex E t m (some e) m' → MFit F R sig E B m' → m.steps ≤ m'.steps → APan C ds (stopV e) (m'.ah E B ++ b)) :
    AL C ds ks ops (⟨d, .call ⟨.value y, xs, tys⟩, T, ps, es, none⟩ :: rest) af ah := by
  refine AL.callQ hy hx h hd ?_ ?_
  · rintro v ah' ⟨_, ⟨o, m', hex, hfit, hle, rfl, hend⟩, rfl⟩
    cases o with
    | none => cases hend; exact hk m' hex hfit hle
    | some e => cases hend
  · rintro v ah' ⟨_, ⟨o, m', hex, hfit, hle, rfl, hend⟩, rfl⟩
    cases o with
    | none => cases hend
    | some e => cases hend; exact hp e m' hex hfit hle
def loopV (B : Blk) (s : GStmt) (bl : Nat) : AV := .fn 77 [.at (.ref B.mb 0), .at s.st, .ref bl 0]
theorem mach_loop (s : GStmt) (hbd : AllOk F R sig E B s.Body) (bl : Nat) : ∀ (k : Nat) (hk : k ≤ 12) (m : MS) (hm : MFit F R sig E B m),
    Tri Try.prog 77 [.int .i64 k, .at (.ref B.mb 0), .at s.st, .ref bl 0] (m.ah E B ++ [.box bl (loopV B s bl)]) (PostB F R sig E B [.box bl (loopV B s bl)] (.t s.Body k) m) := by
  intro k
  induction k with
  | zero =>
    intro hk m hm
    have h1 := (hbd m hm).behind [.box bl (loopV B s bl)]
    refine Tri.enter 22 Try.func77 rfl rfl rfl rfl fun Fr w0 => ?_
    repeat' (first
      | refine AW.seq ?_
      | (refine AW.region_at 0 ?_ <;> refine AL.ev rfl rfl rfl rfl ?_ <;> (first | refine AL.ev rfl rfl rfl rfl ?_ | refine AL.det (AOp.add rfl rfl (by omega)) rfl rfl rfl ?_ | refine AL.det (AOp.sub rfl rfl (by omega)) rfl rfl rfl ?_ | refine AL.det (AOp.bool_eq (by kernel_rfl) rfl rfl) rfl rfl rfl ?_ | refine AL.det (AOp.bool_ne (by kernel_rfl) rfl rfl) rfl rfl rfl ?_) <;> refine AL.nil ?_)
      | refine AW.cond_true rfl ?_
      | refine AW.cond_false rfl ?_
      | refine AW.block ?_
      | refine AW.endblk ?_
      | refine AW.skip ?_
      | refine AW.exit rfl ?_
      | refine AW.label ?_
      | refine AW.cond rfl (fun hb => ?_) (fun hb => ?_))
    · repeat' (first
        | refine AW.seq ?_
        | (refine AW.region_at 1 ?_ <;> refine AL.det (AOp.load_at rfl rfl (by kernel_rfl)) rfl rfl rfl ?_ <;> (first | refine AL.det (AOp.field_at rfl rfl (by kernel_rfl) rfl) rfl rfl rfl ?_ | refine AL.det (AOp.field_ref (off := 12) rfl (by kernel_rfl)) rfl rfl rfl ?_) <;> refine AL.det (AOp.load_at rfl rfl (by kernel_rfl)) rfl rfl rfl ?_ <;> refine AL.callPostB rfl rfl h1 rfl (fun m' hex hfit hle2 => ?_) (fun e m' hex hfit hle2 => APan.of ⟨_, ⟨_, m', .tz hex, hfit, hle2, rfl, rfl⟩, rfl⟩) <;> refine AL.nil ?_)
        | refine AW.cond_true rfl ?_
        | refine AW.cond_false rfl ?_
        | refine AW.block ?_
        | refine AW.endblk ?_
        | refine AW.skip ?_
        | refine AW.exit rfl ?_
        | refine AW.label ?_
        | refine AW.cond rfl (fun hb => ?_) (fun hb => ?_))
      exact AW.retv rfl ⟨_, ⟨none, m', .tz hex, hfit, hle2, rfl, rfl⟩, rfl⟩
  | succ k ih =>
    intro hk m hm
    have hn := hm.n
    refine Tri.enter 22 Try.func77 rfl rfl rfl rfl fun Fr w0 => ?_
    repeat' (first
      | refine AW.seq ?_
      | (refine AW.region_at 0 ?_ <;> refine AL.ev rfl rfl rfl rfl ?_ <;> (first | refine AL.ev rfl rfl rfl rfl ?_ | refine AL.det (AOp.add rfl rfl (by omega)) rfl rfl rfl ?_ | refine AL.det (AOp.sub rfl rfl (by omega)) rfl rfl rfl ?_ | refine AL.det (AOp.bool_eq (by kernel_rfl) rfl rfl) rfl rfl rfl ?_ | refine AL.det (AOp.bool_ne (by kernel_rfl) rfl rfl) rfl rfl rfl ?_) <;> refine AL.nil ?_)
      | (refine AW.region_at 2 ?_ <;> (first | refine AL.det (AOp.load_at rfl rfl (by kernel_rfl)) rfl rfl rfl ?_ | refine AL.det (AOp.load_leaf 0 rfl rfl rfl rfl (by kernel_rfl)) rfl rfl rfl ?_ | refine AL.det (AOp.load_all 0 rfl rfl rfl (by kernel_rfl)) rfl rfl rfl ?_) <;> refine AL.ev rfl rfl rfl rfl ?_ <;> (first | refine AL.det (AOp.field_at rfl rfl (by kernel_rfl) rfl) rfl rfl rfl ?_ | refine AL.det (AOp.field_ref (off := 0) rfl (by kernel_rfl)) rfl rfl rfl ?_) <;> (first | refine AL.det (AOp.load_at rfl rfl (by kernel_rfl)) rfl rfl rfl ?_ | refine AL.det (AOp.load_leaf 0 rfl rfl rfl rfl (by kernel_rfl)) rfl rfl rfl ?_ | refine AL.det (AOp.load_all 0 rfl rfl rfl (by kernel_rfl)) rfl rfl rfl ?_) <;> refine AL.ev rfl rfl rfl rfl ?_ <;> refine AL.nil ?_)
      | refine AW.cond_true rfl ?_
      | refine AW.cond_false rfl ?_
      | refine AW.block ?_
      | refine AW.endblk ?_
      | refine AW.skip ?_
      | refine AW.exit rfl ?_
      | refine AW.label ?_
      | refine AW.cond rfl (fun hb => ?_) (fun hb => ?_))
    all_goals try (exfalso; simp at hb; omega)
    refine AW.prune [0, 1, 2, 3, 14, 15] (AW.loop (fun c af h => ∃ (i : Nat) (u : MS), (i : Int) ≤ E.n ∧ c = E.n.toNat - i ∧ af = [(0, .int .i64 (k + 1 : Nat)), (1, .at (.ref B.mb 0)), (2, .at s.st), (3, .ref bl 0), (14, .int .i64 E.n), (15, .int .i64 i)] ∧ h = u.ah E B ++ [.box bl (loopV B s bl)] ∧ MFit F R sig E B u ∧ m.steps ≤ u.steps ∧ ∀ o m', Ex E (.r s.Body k (E.n.toNat - i)) u o m' → Ex E (.t s.Body (k + 1)) m o m') E.n.toNat ⟨0, m, by omega, rfl, rfl, rfl, hm, Int.le_refl _, fun o m' h => .ts h⟩ ?_)
    rintro c af h ⟨i, u, hi, rfl, rfl, rfl, hu, hle, hx⟩
    refine AW.seq ?_
    by_cases hlt : (i : Int) < E.n
    · have hbox : (u.ah E B ++ [.box bl (loopV B s bl)])[(u.ah E B).length]? = some (.box bl (loopV B s bl)) := by simp
      have h2 := ih (by omega) u hu
      rw [show (k : Int) = ((k + 1 : Nat) : Int) - 1 by omega] at h2
      rw [show E.n.toNat - i = (E.n.toNat - (i + 1)) + 1 by omega] at hx
      repeat' (first
        | refine AW.seq ?_
        | (refine AW.region_at 3 ?_ <;> (first | refine AL.ev rfl rfl rfl rfl ?_ | refine AL.det (AOp.add rfl rfl (by omega)) rfl rfl rfl ?_ | refine AL.det (AOp.sub rfl rfl (by omega)) rfl rfl rfl ?_ | refine AL.det (AOp.bool_eq (by kernel_rfl) rfl rfl) rfl rfl rfl ?_ | refine AL.det (AOp.bool_ne (by kernel_rfl) rfl rfl) rfl rfl rfl ?_) <;> refine AL.nil ?_)
        | (refine AW.region_at 4 ?_ <;> (first | refine AL.det (AOp.load_leaf (u.ah E B).length rfl hbox rfl rfl (by kernel_rfl)) rfl rfl rfl ?_ | refine AL.det (AOp.load_at rfl rfl (by kernel_rfl)) rfl rfl rfl ?_) <;> refine AL.ev rfl rfl rfl rfl ?_ <;> (first | refine AL.ev rfl rfl rfl rfl ?_ | refine AL.det (AOp.add rfl rfl (by omega)) rfl rfl rfl ?_ | refine AL.det (AOp.sub rfl rfl (by omega)) rfl rfl rfl ?_ | refine AL.det (AOp.bool_eq (by kernel_rfl) rfl rfl) rfl rfl rfl ?_ | refine AL.det (AOp.bool_ne (by kernel_rfl) rfl rfl) rfl rfl rfl ?_) <;> refine AL.callPostB rfl rfl h2 rfl (fun m' hex hfit hle2 => ?_) (fun e m' hex hfit hle2 => APan.of ⟨_, ⟨_, m', hx _ _ (.rbad hex), hfit, by omega, rfl, rfl⟩, rfl⟩) <;> refine AL.nil ?_)
        | (refine AW.region_at 5 ?_ <;> (first | refine AL.ev rfl rfl rfl rfl ?_ | refine AL.det (AOp.add rfl rfl (by omega)) rfl rfl rfl ?_ | refine AL.det (AOp.sub rfl rfl (by omega)) rfl rfl rfl ?_ | refine AL.det (AOp.bool_eq (by kernel_rfl) rfl rfl) rfl rfl rfl ?_ | refine AL.det (AOp.bool_ne (by kernel_rfl) rfl rfl) rfl rfl rfl ?_) <;> refine AL.ev rfl rfl rfl rfl ?_ <;> refine AL.nil ?_)
        | refine AW.cond_true rfl ?_
        | refine AW.cond_false rfl ?_
        | refine AW.block ?_
        | refine AW.endblk ?_
        | refine AW.skip ?_
        | refine AW.exit rfl ?_
        | refine AW.label ?_
        | refine AW.cond rfl (fun hb => ?_) (fun hb => ?_))
      all_goals first
        | (exfalso; simp only [decide_eq_true_eq, decide_eq_false_iff_not, List.length_map] at *; omega)
        | exact AW.again_keep (E.n.toNat - (i + 1)) [0, 1, 2, 3, 14, 15] (by omega) ⟨i + 1, m', by omega, rfl, rfl, rfl, hfit, by omega, fun o m2 h => hx o m2 (.rstep hex h)⟩
    · rw [show E.n.toNat - i = 0 by omega] at hx
      repeat' (first
        | refine AW.seq ?_
        | (refine AW.region_at 3 ?_ <;> (first | refine AL.ev rfl rfl rfl rfl ?_ | refine AL.det (AOp.add rfl rfl (by omega)) rfl rfl rfl ?_ | refine AL.det (AOp.sub rfl rfl (by omega)) rfl rfl rfl ?_ | refine AL.det (AOp.bool_eq (by kernel_rfl) rfl rfl) rfl rfl rfl ?_ | refine AL.det (AOp.bool_ne (by kernel_rfl) rfl rfl) rfl rfl rfl ?_) <;> refine AL.nil ?_)
        | refine AW.cond_true rfl ?_
        | refine AW.cond_false rfl ?_
        | refine AW.block ?_
        | refine AW.endblk ?_
        | refine AW.skip ?_
        | refine AW.exit rfl ?_
        | refine AW.label ?_
        | refine AW.cond rfl (fun hb => ?_) (fun hb => ?_))
      all_goals first
        | (exfalso; simp only [decide_eq_true_eq, decide_eq_false_iff_not, List.length_map] at *; omega)
        | exact AW.donev rfl ⟨_, ⟨none, u, hx _ _ .rz, hu, hle, rfl, rfl⟩, rfl⟩
theorem mach_times (s : GStmt) (hs : Fit F R sig s) (hk : s.Kind = 9) (hl : s.Body.length ≤ 4611686018427387904) (hbd : AllOk F R sig E B s.Body) (m : MS) (hm : MFit F R sig E B m) :
    Tri Try.prog 55 [.ref B.mb 0, s.st] (m.ah E B) (Post F R sig E B (.s s) m) := by
  have hN := hs.n
  have hlen : ((s.Body.map GStmt.av).length : Int) = s.Body.length := by simp
  refine Tri.enter 14 Try.func55 rfl rfl rfl rfl fun Fr w0 => ?_
  repeat' (first
    | refine AW.seq ?_
    | (refine AW.region_at 0 ?_ <;> refine AL.det (AOp.box_ro rfl rfl) rfl rfl rfl ?_ <;> refine AL.det (AOp.box_ro rfl rfl) rfl rfl rfl ?_ <;> refine AL.nil ?_)
    | (refine AW.region_at 1 ?_ <;> (first | refine AL.det (AOp.field_at rfl rfl (by kernel_rfl) rfl) rfl rfl rfl ?_ | refine AL.det (AOp.field_ref (off := 12) rfl (by kernel_rfl)) rfl rfl rfl ?_) <;> refine AL.det (AOp.load_at rfl rfl (by kernel_rfl)) rfl rfl rfl ?_ <;> refine AL.det (AOp.len rfl rfl (by kernel_rfl)) rfl rfl rfl ?_ <;> (first | refine AL.ev rfl rfl rfl rfl ?_ | refine AL.det (AOp.add rfl rfl (by omega)) rfl rfl rfl ?_ | refine AL.det (AOp.sub rfl rfl (by omega)) rfl rfl rfl ?_ | refine AL.det (AOp.bool_eq (by kernel_rfl) rfl rfl) rfl rfl rfl ?_ | refine AL.det (AOp.bool_ne (by kernel_rfl) rfl rfl) rfl rfl rfl ?_) <;> refine AL.nil ?_)
    | refine AW.cond_true rfl ?_
    | refine AW.cond_false rfl ?_
    | refine AW.block ?_
    | refine AW.endblk ?_
    | refine AW.skip ?_
    | refine AW.exit rfl ?_
    | refine AW.label ?_
    | refine AW.cond rfl (fun hb => ?_) (fun hb => ?_))
  · have h0 : s.Body = [] := by
      have : (s.Body.length : Int) = 0 := by rw [← hlen]; simpa using hb
      exact List.length_eq_zero_iff.1 (by omega)
    exact AW.retv rfl ⟨none, m, .t0 hk h0, hm, Int.le_refl _, rfl, rfl⟩
  · have h0 : s.Body ≠ [] := by
      rintro e
      rw [e] at hb
      simp at hb
    repeat' (first
      | refine AW.seq ?_
      | (refine AW.region_at 2 ?_ <;> refine AL.alloc_z (.val .nilFunc) (by kernel_rfl) rfl rfl fun bl => ?_ <;> refine AL.nil ?_)
      | (refine AW.region_at 3 ?_ <;> refine AL.ev rfl rfl rfl rfl ?_ <;> refine AL.store_leaf 0 rfl rfl rfl rfl rfl (by kernel_rfl) ?_ <;> refine AL.nil ?_)
      | refine AW.cond_true rfl ?_
      | refine AW.cond_false rfl ?_
      | refine AW.block ?_
      | refine AW.endblk ?_
      | refine AW.skip ?_
      | refine AW.exit rfl ?_
      | refine AW.label ?_
      | refine AW.cond rfl (fun hb => ?_) (fun hb => ?_))
    refine AW.perm (b := m.ah E B ++ [.box bl (loopV B s bl)]) (List.perm_append_comm (l₁ := [_])) ?_
    have hbox : (m.ah E B ++ [.box bl (loopV B s bl)])[(m.ah E B).length]? = some (.box bl (loopV B s bl)) := by simp
    have h2 := mach_loop s hbd bl s.N.toNat (by omega) m hm
    rw [show ((s.N.toNat : Nat) : Int) = s.N by omega] at h2
    repeat' (first
      | refine AW.seq ?_
      | (refine AW.region_at 4 ?_ <;> (first | refine AL.det (AOp.load_leaf (m.ah E B).length rfl hbox rfl rfl (by kernel_rfl)) rfl rfl rfl ?_ | refine AL.det (AOp.load_at rfl rfl (by kernel_rfl)) rfl rfl rfl ?_) <;> (first | refine AL.det (AOp.field_at rfl rfl (by kernel_rfl) rfl) rfl rfl rfl ?_ | refine AL.det (AOp.field_ref (off := 4) rfl (by kernel_rfl)) rfl rfl rfl ?_) <;> (first | refine AL.det (AOp.load_leaf (m.ah E B).length rfl hbox rfl rfl (by kernel_rfl)) rfl rfl rfl ?_ | refine AL.det (AOp.load_at rfl rfl (by kernel_rfl)) rfl rfl rfl ?_) <;> refine AL.callPostB rfl rfl h2 rfl (fun m' hex hfit hle2 => ?_) (fun e m' hex hfit hle2 => APan.drop (List.sublist_append_left _ _) (APan.of ⟨_, m', .t1 hk h0 hex, hfit, hle2, rfl, rfl⟩)) <;> refine AL.nil ?_)
      | refine AW.cond_true rfl ?_
      | refine AW.cond_false rfl ?_
      | refine AW.block ?_
      | refine AW.endblk ?_
      | refine AW.skip ?_
      | refine AW.exit rfl ?_
      | refine AW.label ?_
      | refine AW.cond rfl (fun hb => ?_) (fun hb => ?_))
    exact AW.done_drop rfl (List.sublist_append_left _ _) ⟨none, m', .t1 hk h0 hex, hfit, hle2, rfl, rfl⟩
theorem prim_steps (n : Int) (s : GStmt) (m : MS) : (prim n s m).steps = m.steps := by
  have hif : ∀ (c : Prop) [Decidable c] (a b : MS), a.steps = m.steps → b.steps = m.steps → (if c then a else b).steps = m.steps := fun c _ a b h1 h2 => by split <;> assumption
  unfold prim
  exact hif _ _ _ rfl (hif _ _ _ rfl (hif _ _ _ rfl (hif _ _ _ rfl (hif _ _ _ rfl (hif _ _ _ rfl (hif _ _ _ rfl (hif _ _ _ rfl (hif _ _ _ rfl rfl))))))))
/-- A statement without parts, as a relation. -/
theorem Post.of_prim {m : MS} {s : GStmt} {f : FuncId} {args : List AV} (hm : MFit F R sig E B m) (hs : Fit F R sig s) (hp : isPrim s.Kind) (h : Tri Try.prog f args (m.ah E B) (D (.tup []) ((prim E.n s m).ah E B))) : Tri Try.prog f args (m.ah E B) (Post F R sig E B (.s s) m) :=
  h.mono fun x h' ⟨h1, h2⟩ => ⟨none, prim E.n s m, .prim hp, hm.prim s hs, by rw [prim_steps]; exact Int.le_refl _, h2, h1⟩
theorem mach_stmt (s : GStmt) (hok : s.Ok) (hs : SFit F R sig s) (hb : AllOk F R sig E B s.Body) (he : AllOk F R sig E B s.Else) (m : MS) (hm : MFit F R sig E B m) :
    Tri Try.prog (fnOf s.Kind) [.ref B.mb 0, s.st] (m.ah E B) (Post F R sig E B (.s s) m) := by
  have hf := hs.fit
  obtain ⟨hg, hb1, _, he1, _⟩ := hok
  have hl1 : s.Lit.At.length ≤ 4611686018427387904 := by have := hg.2.2.2.2.2.2.2.1.2.2.1; omega
  have hl2 : s.Regs.length ≤ 4611686018427387904 := by have := hg.2.2.2.2.2.2.2.2.1; omega
  have hk := hf.kind
  have hc : s.Kind = 0 ∨ s.Kind = 1 ∨ s.Kind = 2 ∨ s.Kind = 3 ∨ s.Kind = 4 ∨ s.Kind = 5 ∨ s.Kind = 6 ∨ s.Kind = 7 ∨ s.Kind = 8 ∨ s.Kind = 9 ∨ s.Kind = 10 ∨ s.Kind = 11 ∨ s.Kind = 12 ∨ s.Kind = 13 ∨ s.Kind = 14 := by omega
  rcases hc with h | h | h | h | h | h | h | h | h | h | h | h | h | h | h
  · rw [show fnOf s.Kind = 44 by rw [h]; rfl]; exact Post.of_prim hm hf (by unfold isPrim; omega) (mach_0 hm s hf h hl1)
  · rw [show fnOf s.Kind = 46 by rw [h]; rfl]; exact Post.of_prim hm hf (by unfold isPrim; omega) (mach_1 hm s hf h)
  · rw [show fnOf s.Kind = 47 by rw [h]; rfl]; exact Post.of_prim hm hf (by unfold isPrim; omega) (mach_2 hm s hf h)
  · rw [show fnOf s.Kind = 48 by rw [h]; rfl]; exact Post.of_prim hm hf (by unfold isPrim; omega) (mach_3 hm s hf h)
  · rw [show fnOf s.Kind = 49 by rw [h]; rfl]; exact Post.of_prim hm hf (by unfold isPrim; omega) (mach_4 hm s hf h)
  · rw [show fnOf s.Kind = 50 by rw [h]; rfl]; exact Post.of_prim hm hf (by unfold isPrim; omega) (mach_5 hm s hf h)
  · rw [show fnOf s.Kind = 51 by rw [h]; rfl]; exact Post.of_prim hm hf (by unfold isPrim; omega) (mach_6 hm s hf h hl2)
  · rw [show fnOf s.Kind = 53 by rw [h]; rfl]; exact mach_each s hf h hb m hm
  · rw [show fnOf s.Kind = 54 by rw [h]; rfl]; exact mach_if s hf h hb he m hm
  · rw [show fnOf s.Kind = 55 by rw [h]; rfl]; exact mach_times s hf h (by omega) hb m hm
  · rw [show fnOf s.Kind = 56 by rw [h]; rfl]; exact mach_until s hf h hb m hm
  · rw [show fnOf s.Kind = 58 by rw [h]; rfl]; exact Post.of_prim hm hf (by unfold isPrim; omega) (mach_11 hm s hf h)
  · rw [show fnOf s.Kind = 59 by rw [h]; rfl]
    by_cases hg : (E.G.length : Int) - m.used < (m.rels s.Name).length
    · exact (mach_guess_bad hm s hf h hg).mono fun x h' ⟨h1, h2⟩ => ⟨some 2, m, .gbad h hg, hm, Int.le_refl _, h2, h1⟩
    · exact (mach_guess_ok hm s hf h hg).mono fun x h' ⟨h1, h2⟩ => ⟨none, _, .gok h hg, hm.guess s hg, Int.le_refl _, h2, h1⟩
  · rw [show fnOf s.Kind = 60 by rw [h]; rfl]; exact Post.of_prim hm hf (by unfold isPrim; omega) (mach_13 hm s hf h)
  · rw [show fnOf s.Kind = 61 by rw [h]; rfl]; exact Post.of_prim hm hf (by unfold isPrim; omega) (mach_14 hm s hf h)
theorem mach_list : ∀ (n : Nat) (l : List GStmt), cntL l ≤ n → l.length ≤ 4611686018427387904 → (∀ x ∈ l, x.Ok) → (∀ x ∈ l, SFit F R sig x) → AllOk F R sig E B l := by
  intro n
  induction n using Nat.strongRecOn with
  | _ n ih =>
    intro l hn hl hok hs m hm
    refine mach_all l hl hs (fun x hx m hm => ?_) m hm
    have hc := cnt_mem hx
    have hcs := cntS_eq x
    have hxo := hok x hx
    have hxs := hs x hx
    obtain ⟨_, hb1, hb2, he1, he2⟩ := id hxo
    exact mach_stmt x hxo hxs (ih (cntL x.Body) (by omega) x.Body (Nat.le_refl _) (by omega) hb2 hxs.body) (ih (cntL x.Else) (by omega) x.Else (Nat.le_refl _) (by omega) he2 hxs.els) m hm
end
end Go.Proofs.Ytdedkpfbfklgbaa
