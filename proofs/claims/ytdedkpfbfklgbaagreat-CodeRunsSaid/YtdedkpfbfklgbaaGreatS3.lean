/- The library of abstract walks, part 3. -/
import Derived.Test.YtdedkpfbfklgbaaGreatS2
import Derived.Test.YtdedkpfbfklgbaaGreatS2
import Derived.Lib.AppendZerosOnto
namespace Go.SX
open Go.RowKit
set_option linter.unusedVariables false
set_option linter.unusedSimpArgs false
section
variable {P : Program} {af : AF} {ah : AH} {d : Option Tmp} {T : TypeId} {ps : String} {es : Array Edge} {gd : Option (Nat × Bool)}
def nilS : AV := .val (.slice none 0 0)
theorem AOp.callV {f : FuncId} {y : Operand} {caps : List AV} {xs : Array Operand} {tys : Array TypeId} {args : List AV} {Φ : AEnd → AH → Prop} (hy : aeval af y = some (.fn f caps)) (hx : ∀ (S : Rg) (w : World) (a : Act), AFRel S w af a → RelVs S w args (xs.toList.map a.eval))
    (h : Tri P f (args ++ caps) ah Φ) : AOp P ⟨d, .call ⟨.value y, xs, tys⟩, T, ps, es, gd⟩ af ah Φ := .mk fun Fr a w hst hf => by
  obtain ⟨vs, hv, hc⟩ := (aeval_rel hf hy).fn
  have hr := hx _ _ _ hf
  have hrun : (execOp a.eval ⟨d, .call ⟨.value y, xs, tys⟩, T, ps, es, gd⟩).run P w = .ok (.enter f ((xs.toList.map a.eval ++ vs).toArray)) w := by
    simp only [execOp, resolve, hv, Deferred.ofValue, Sem.run_bind, Sem.run_pure, Result.andThen_ok, invoke]
    rw [run_callFunc h.1]
    congr 2
    apply Array.ext'
    simp
  rw [hrun]
  exact h.2 Fr w _ hst (hr.append hc)
theorem AOp.cap_nil {x : Operand} {t : TypeId} (ht : lenTy P t = some false) (hx : aeval af x = some nilS) : AOp P ⟨d, .call ⟨.builtin .cap, #[x], #[t]⟩, T, ps, es, gd⟩ af ah (D (.int .i64 0) ah) :=
  AOp.of_pure fun S a w hfr _ => by
    have hu := (aeval_rel hfr hx).val
    obtain ⟨e, ht⟩ := lenTy_sl ht
    exact ⟨.int .i64 0, by simp [execOp, resolve, invoke, builtin, hu, Builtin.cap_, goInt, run_underlying ht], mk_int⟩
theorem AOp.len_nil {x : Operand} {t : TypeId} (ht : lenTy P t = some false) (hx : aeval af x = some nilS) : AOp P ⟨d, .call ⟨.builtin .len, #[x], #[t]⟩, T, ps, es, gd⟩ af ah (D (.int .i64 0) ah) :=
  AOp.of_pure fun S a w hfr _ => by
    have hu := (aeval_rel hfr hx).val
    obtain ⟨e, ht⟩ := lenTy_sl ht
    exact ⟨.int .i64 0, by simp [execOp, resolve, invoke, builtin, hu, Builtin.len_, Builtin.lenOf, goInt, run_underlying ht], mk_int⟩
theorem AOp.cut_nil {x : Operand} {lo hi : Option Operand} {t sz : Nat} (ht : esize P t = some sz) (hx : aeval af x = some nilS) (el : bndIs af lo 0 0) (eh : bndIs af hi 0 0) : AOp P ⟨d, .slice t x lo hi none, T, ps, es, gd⟩ af ah (D nilS ah) :=
  AOp.of_pure fun S a w hf _ => by
    have hu := (aeval_rel hf hx).val
    unfold esize at ht
    split at ht
    · rename_i e hut
      cases hi' : P.info? e with
      | none => simp [hi'] at ht
      | some i =>
        have hb := run_bounds (P := P) (c := 0) (sl := true) (w := w) hf el eh (Nat.le_refl _) (Nat.le_refl _)
        refine ⟨.slice none 0 0, by simp [execOp, Instr.sliceAt, run_underlying hut, Instr.slice, hu, hb, sizeOf, typeInfo, hi'], ?_⟩
        exact ⟨by simp [nilS, RelC, Value.cells], by simp [nilS, Shape]⟩
    · cases ht
theorem AOp.cut_osl {x : Operand} {hi : Option Operand} {t sz b n c h : Nat} (ht : esize P t = some sz) (hx : aeval af x = some (.osl b n c)) (eh : bndIs af hi n h) (hh : h ≤ c) : AOp P ⟨d, .slice t x none hi none, T, ps, es, gd⟩ af ah (D (.osl b h c) ah) :=
  AOp.of_pure fun S a w hf _ => by
    obtain ⟨hu, hl1, hl2⟩ := (aeval_rel hf hx).osl
    unfold esize at ht
    split at ht
    · rename_i e hut
      cases hi' : P.info? e with
      | none => simp [hi'] at ht
      | some i =>
        have hb := run_bounds (P := P) (w := w) (c := c) (sl := true) hf (bndIs.none (af := af) (n := 0)) eh (Nat.zero_le _) hh
        refine ⟨.slice (some ⟨b, 0, none⟩) h c, ?_, mk_osl hh hl2⟩
        simp only [Option.map_none] at hb
        simp [execOp, Instr.sliceAt, run_underlying hut, Instr.slice, hu, hb, sizeOf, typeInfo, hi', addr_add]
    · cases ht
theorem appRow {t e bytes : Nat} {c : Value} (h : rowTy P t = some (e, c, bytes)) : appTy P t = some (e, 1, bytes) := by
  obtain ⟨hu, i, z, hi, hz, hzc, hs, hb⟩ := rowTy_parts h
  unfold appTy
  rw [hu]
  simp only [hi, hz, hzc, hs, hb]
  rfl
theorem AOp.append_zeros {x y : Operand} {n : Nat} {t t2 e bytes : Nat} {c : Value} {z : AV} (hx : aeval af x = some nilS) (hy : aeval af y = some (.int .i64 n)) (h0 : 0 < n) (ht : rowTy P t = some (e, c, bytes)) (ht2 : (match P.underlying t2 with | some (.int _) => true | _ => false) = true) (hz : z.flat = some [c]) (hb : n * bytes ≤ 16777216) (hn : n ≤ 16777216) :
    AOp P ⟨d, .call ⟨.builtin .append, #[x, y], #[t, t2]⟩, T, ps, es, gd⟩ af ah (fun r h => ∃ b k, n ≤ k ∧ r = .ret (.osl b n k) ∧ h = .row b (List.replicate k z) :: ah) := .mk fun Fr a w hst hf => by
  have e1 := (aeval_rel hf hx).val
  have e2 := (aeval_rel hf hy).int
  obtain ⟨hu, i, zv, hi, hzv, hzc, hs, hbt⟩ := rowTy_parts ht
  obtain ⟨kn, ht2'⟩ : ∃ kn, P.underlying t2 = some (.int kn) := by
    split at ht2
    · exact ⟨_, by assumption⟩
    · cases ht2
  have hold : (Builtin.firstCells i.size 0 (.slice none 0 0)).run P w.drew = .ok ([] : List Value).toArray w.drew := by simp [Builtin.firstCells]
  have hrun := Lib.run_append_grow_zeros w t t2 T e i zv .i64 kn hu ht2' hi hzv none 0 0 [] hold n h0 (by rw [hs]; omega) (by omega) (by simp; omega) (by rw [hbt]; omega) (by rw [Nat.zero_add]; exact growslice_fits (by omega) (by rw [hbt]; omega))
  rw [Nat.zero_add, hzc] at hrun
  generalize hk : grownCap w n 0 e = k at hrun
  have hk1 : n ≤ k := by rw [← hk]; exact grownCap_ge w n 0 e
  have hk2 : k ≤ maxLen := by rw [← hk]; exact grownCap_le_maxLen w n 0 e (by unfold maxLen; omega)
  have hcs : ([] : List Value).toArray ++ Builtin.zeroCells #[c] n ++ Builtin.zeroCells #[c] (k - n) = Array.replicate k c := by
    apply Array.ext'
    simp only [Array.toList_append, zeroCells_one, List.nil_append, List.replicate_append_replicate, Array.toList_replicate]
    congr 1
    omega
  rw [hcs] at hrun
  have hrun' : (execOp a.eval ⟨d, .call ⟨.builtin .append, #[x, y], #[t, t2]⟩, T, ps, es, gd⟩).run P w = .ok (.value (.slice (some ⟨w.heap.size, 0, none⟩) n k)) (w.drew.alloc (.cells (Array.replicate k c) e)) := by
    simp only [execOp, resolve, invoke, builtin, Sem.run_bind, Sem.run_pure, Result.andThen_ok, List.map_toArray, List.map_cons, List.map_nil, e1, e2, hrun]
  rw [hrun']
  have hext0 : Ext (fun _ _ => False) w (w.drew.alloc (.cells (Array.replicate k c) e)) :=
    ⟨rfl, rfl, rfl, by simp, fun k hk _ => Below.heap_alloc w.drew _ k hk, fun ad v hc _ => (World.cell?_alloc_lt w.drew _ ad (cell_lt hc)).trans hc⟩
  obtain ⟨h1, h2, h3⟩ := hst.cons (x := .row w.heap.size (List.replicate k z)) (b := w.heap.size) rfl (Nat.le_refl _) (by simp) hext0 (fun m => ⟨_, e, heap_alloc_new w.drew _, fun j v hj => by
    obtain ⟨hk1, rfl⟩ : j < k ∧ z = v := by
      rw [List.getElem?_replicate] at hj
      split at hj
      · exact ⟨‹_›, Option.some.inj hj⟩
      · cases hj
    exact ⟨c, by simp [hk1], RelC.flat z _ hz⟩⟩)
  exact ⟨_, _, ⟨_, _, hk1, rfl, rfl⟩, ⟨_, rfl, mk_osl hk1 hk2⟩, h1, h2, h3⟩
theorem AOp.append_osl {x y : Operand} {b n c i : Nat} {xs ys : List AV} {v : AV} {t t2 e bytes : Nat} {c0 : Value} (hx : aeval af x = some (.osl b n c)) (hi : ah[i]? = some (.row b xs)) (hc : c ≤ xs.length) (hy : aeval af y = some v) (hs : srcOf v = some ys)
    (ht : rowTy P t = some (e, c0, bytes)) (ht2 : isSlTy P t2 = true) (hys : ∀ y ∈ ys, y.size = 1) (hok : AV.cellsOK ys = true) (hroom : n + ys.length ≤ c) :
    AOp P ⟨d, .call ⟨.builtin .append, #[x, y], #[t, t2]⟩, T, ps, es, gd⟩ af ah (D (.osl b (n + ys.length) c) (ah.set i (.row b (xs.take n ++ ys ++ xs.drop (n + ys.length))))) := .mk fun Fr a w hst hf => by
  obtain ⟨hu, hl1, hl2⟩ := (aeval_rel hf hx).osl
  obtain ⟨A2, c2, hu2, hl2', hm2, hrow2⟩ := srcOf_rel (aeval_rel hf hy) hs
  obtain ⟨ds, d1, d2, d3⟩ := run_first (P := P) (w' := w) (c := c2) hrow2 hys rfl
  rw [Nat.mul_one] at d3
  obtain ⟨w', r1, k1, k2, k3⟩ := hst.laid (P := P) (ys := ys) (ds := ds) (o := n) hi (by omega) d3 (RelCs.cellOK _ ds d2 hok) (fun j y hj => RelCs.get1 d2 hys j y hj)
  have hrun := run_append_room (ty := T) (base := some ⟨b, 0, none⟩) (n := n) (cap := c) (appRow ht) ht2 d1 hroom
  simp only [Nat.mul_one, addr_add, Nat.zero_add, r1, Result.andThen_ok] at hrun
  have hrun' : (execOp a.eval ⟨d, .call ⟨.builtin .append, #[x, y], #[t, t2]⟩, T, ps, es, gd⟩).run P w = .ok (.value (.slice (some ⟨b, 0, none⟩) (n + ys.length) c)) w' := by
    simp only [execOp, resolve, invoke, builtin, Sem.run_bind, Sem.run_pure, Result.andThen_ok, List.map_toArray, List.map_cons, List.map_nil, hu, hu2, hrun]
  rw [hrun']
  exact ⟨_, _, ⟨rfl, rfl⟩, ⟨_, rfl, mk_osl hroom hl2⟩, k1, k2, k3⟩
end
section
variable {C : Cx} {ds : List Deferred} {ks : List K} {af : AF} {ah : AH} {ops : Array Oper} {rest : List Oper}
theorem Good.freeze_pre {a : Act} {w : World} (g : Good C ds af ah a w) {i d b n c : Nat} {xs : List AV} (hi : ah[i]? = some (.row b xs)) (hd : get af d = some (.osl b n c)) (hn : n ≤ xs.length) (hs : ∀ x ∈ xs, x.size = 1) : Good C ds ((d, .sl (xs.take n)) :: af) (ah.eraseIdx i) a w := by
  have g' := g.sub (List.eraseIdx_sublist ah i)
  obtain ⟨cs, t, hh, hr⟩ := g.st.rel _ (List.mem_of_getElem? hi)
  have hbm := List.mem_of_getElem? hi
  have hsof : ∀ b o, Sof C.Fr (ah.eraseIdx i) b o → Sof C.Fr ah b o := fun b o hs => hs.elim .inl fun hr => .inr (reg_sub (List.eraseIdx_sublist ah i) hr)
  refine { g' with fr := fun j v hj => ?_ }
  rw [get_cons] at hj
  by_cases e : d = j
  · subst e
    rw [if_pos rfl] at hj
    obtain rfl := Option.some.inj hj
    obtain ⟨hu, hl1, hl2⟩ := (g.fr d _ hd).osl
    rw [hu]
    refine ⟨?_, by simp [Shape]⟩
    show RelC _ _ (.sl (xs.take n)) [_]
    simp only [RelC]
    have hln : (xs.take n).length = n := by simp; omega
    refine ⟨_, c, by rw [hln], by rw [hln]; exact hl1, hl2, fun _ => ⟨b, 0, 1, rfl, ?_⟩⟩
    have hno : ∀ o, ¬ Sof C.Fr (ah.eraseIdx i) b o := by
      rintro o (hF | ⟨y, hy, hy'⟩)
      · exact g.st.fr _ hbm b rfl _ hF
      · have hyb := reg_blk hy'
        obtain ⟨e1, _⟩ := mem_split hi
        have hn := g.st.nodup
        rw [e1, List.filterMap_append, List.nodup_append, List.filterMap_cons] at hn
        simp only [Own.blk] at hn
        rw [List.eraseIdx_eq_take_drop_succ] at hy
        rcases List.mem_append.1 hy with hy | hy
        · exact hn.2.2 b (List.mem_filterMap.2 ⟨y, hy, hyb⟩) b (by simp) rfl
        · exact (List.nodup_cons.1 hn.2.1).1 (List.mem_filterMap.2 ⟨y, hy, hyb⟩)
    have key : ∀ (l : List AV) (o : Nat), (∀ (k : Nat) x, l[k]? = some x → ∃ v, cs[o + k]? = some v ∧ RelC (Sof C.Fr ah) w x [v]) → RelRow (Sof C.Fr (ah.eraseIdx i)) w l 1 b o := by
      intro l
      induction l with
      | nil => intro o _; simp [RelRow]
      | cons x l ih =>
        intro o h
        simp only [RelRow]
        obtain ⟨v, hv, hrv⟩ := h 0 x rfl
        refine ⟨⟨[v], rfl, RelC.mv (Mv.same w hsof) _ _ hrv, fun j u hj => ⟨hno _, ?_⟩⟩, ih (o + 1) fun k y hk => ?_⟩
        · cases j with
          | zero => simp only [List.getElem?_cons_zero, Option.some.injEq] at hj; subst hj; rw [cell_of_row w b _ cs t (0, 0) hh]; exact hv
          | succ j => simp at hj
        · obtain ⟨v, hv, hrv⟩ := h (k + 1) y (by simpa using hk)
          exact ⟨v, by rw [show o + 1 + k = o + (k + 1) by omega]; exact hv, hrv⟩
    refine key (xs.take n) 0 fun k x hk => ?_
    rw [Nat.zero_add]
    refine hr k x ?_
    have hlt := (List.getElem?_eq_some_iff.1 hk).1
    rw [List.getElem?_take, if_pos (by simp at hlt; omega)] at hk
    exact hk
  · rw [if_neg e] at hj
    exact g'.fr j v hj
theorem AW.freeze_pre (i d : Nat) {b n c : Nat} {xs : List AV} (hi : ah[i]? = some (.row b xs)) (hd : get af d = some (.osl b n c)) (hn : n ≤ xs.length) (hs : ∀ x ∈ xs, x.size = 1) (k : AW C ds ks ((d, .sl (xs.take n)) :: af) (ah.eraseIdx i)) : AW C ds ks af ah := .mk fun a w g => k.out a w (g.freeze_pre hi hd hn hs)
theorem AL.append_zeros {dd : Nat} {x y : Operand} {n : Nat} {t t2 e bytes : Nat} {c : Value} {z : AV} {T : TypeId} {ps : String} {es : Array Edge} (hx : aeval af x = some nilS) (hy : aeval af y = some (.int .i64 n)) (h0 : 0 < n) (ht : rowTy C.P t = some (e, c, bytes)) (ht2 : (match C.P.underlying t2 with | some (.int _) => true | _ => false) = true) (hz : z.flat = some [c]) (hb : n * bytes ≤ 16777216) (hn : n ≤ 16777216) (hd : Nat.blt dd C.n = true)
    (hk : ∀ b k, n ≤ k → AL C ds ks ops rest ((dd, .osl b n k) :: af) (.row b (List.replicate k z) :: ah)) : AL C ds ks ops (⟨some dd, .call ⟨.builtin .append, #[x, y], #[t, t2]⟩, T, ps, es, none⟩ :: rest) af ah :=
  AL.step rfl hd (AOp.append_zeros hx hy h0 ht ht2 hz hb hn) (by rintro _ _ ⟨b, k, h, e, rfl⟩; injection e with e; subst e; exact hk b k h) (by rintro _ _ ⟨b, k, h, e, _⟩; cases e)
end
end Go.SX
namespace Go.SX
open Go.RowKit
set_option linter.unusedVariables false
set_option linter.unusedSimpArgs false
def Agree : Nat → List Nat → List AV → List AV → Prop
  | k, rem, v :: vs, u :: us => (memN k rem = true ∨ v = u) ∧ Agree (k + 1) rem vs us
  | _, _, [], [] => True
  | _, _, _, _ => False
theorem Agree.spec : ∀ {vs us : List AV} {k : Nat} {rem : List Nat}, Agree k rem vs us → vs.length = us.length ∧ ∀ y, (k + y) ∉ rem → vs.getD y .any = us.getD y .any
  | [], [], k, rem, _ => ⟨rfl, fun _ _ => rfl⟩
  | v :: vs, u :: us, k, rem, h => by
    obtain ⟨h1, h2⟩ := h
    obtain ⟨g1, g2⟩ := Agree.spec h2
    refine ⟨by simp [g1], fun y hy => ?_⟩
    cases y with
    | zero =>
      rcases h1 with h1 | h1
      · exact absurd (memN_iff.1 h1) (by simpa using hy)
      · simp [h1]
    | succ y => simpa using g2 y (by rw [show k + 1 + y = k + (y + 1) by omega]; exact hy)
  | [], u :: us, _, _, h => h.elim
  | v :: vs, [], _, _, h => h.elim
def RestOK (P : Program) (ops : Array Oper) (af : AF) (ae : AH) (us : List AV) : List Nat → Prop
  | [] => True
  | i :: l => (∃ o, ops[i]? = some o ∧ o.guard = none ∧ AOp P o (keep (oslots ops o) (frameOf ops us af (down i))) ae (D (us.getD i .any) ae)) ∧ RestOK P ops af ae us l
theorem RestOK.mem {P : Program} {ops : Array Oper} {af : AF} {ae : AH} {us : List AV} : ∀ {l : List Nat}, RestOK P ops af ae us l → ∀ i ∈ l, ∃ o, ops[i]? = some o ∧ o.guard = none ∧ AOp P o (keep (oslots ops o) (frameOf ops us af (down i))) ae (D (us.getD i .any) ae)
  | [], _, i, h => by cases h
  | j :: l, h, i, hi => by
    rcases List.mem_cons.1 hi with rfl | hi
    · exact h.1
    · exact RestOK.mem h.2 i hi
section
variable {C : Cx} {ds : List Deferred} {ks : List K} {ops : Array Oper} {af : AF} {aq : AH}
theorem AX.rest_core {ae : AH} {us : List AV} (hd : drawOK ops = true) (hk : AW C ds ks (frameOf ops us af (down ops.size)) (ae ++ aq)) : ∀ (n : Nat) (rem : List Nat) (vs : List AV), rem.length = n → rem.Nodup → (∀ i ∈ rem, i < ops.size ∧ i < vs.length) →
    (∀ y, y ∉ rem → vs.getD y .any = us.getD y .any) → (∀ i ∈ rem, ∃ o, ops[i]? = some o ∧ o.guard = none ∧ AOp C.P o (keep (oslots ops o) (frameOf ops us af (down i))) ae (D (us.getD i .any) ae)) → AX C ds ks ops af aq n rem vs ae := by
  intro n
  induction n with
  | zero =>
    intro rem vs hl hn hlt hag hq
    obtain rfl := List.length_eq_zero_iff.1 hl
    refine AW.weaken hk fun s v hs => ?_
    rw [get_frameOf] at hs ⊢
    cases hw : wr ops s (down ops.size) with
    | none => rw [hw] at hs; exact hs
    | some x => rw [hw] at hs; simp only at hs ⊢; rw [hag x (by simp)]; exact hs
  | succ n ih =>
    intro rem vs hl hn hlt hag hq i hi hready
    obtain ⟨o, ho, hg, hop⟩ := hq i hi
    have hkeep : keep (oslots ops o) (frameOf ops vs af (down i)) = keep (oslots ops o) (frameOf ops us af (down i)) := by
      refine keep_congr fun s hs => ?_
      rw [get_frameOf, get_frameOf]
      cases hw : wr ops s (down i) with
      | none => rfl
      | some y =>
        simp only
        obtain ⟨l1, l2, e, hy, _⟩ := wr_some hw
        have hyi : y < i := mem_down.1 (by rw [e]; simp)
        have hcl := drawOK_clash hd hyi (hlt i hi).1 (clash_comm (clash_slot ho hs hy))
        have hyr : y ∉ rem := fun hm => by rw [hready y hm] at hcl; cases hcl
        rw [hag y hyr]
    refine ⟨o, ho, .inr ⟨by simp [gdo, hg], D (us.getD i .any) ae, hkeep ▸ hop, ?_, ?_⟩⟩
    · rintro v h ⟨e, rfl⟩
      injection e with e
      subst e
      refine ih (rem.erase i) _ (by rw [List.length_erase_of_mem hi, hl]; rfl) (hn.erase i) (fun j hj => ?_) (fun y hy => ?_) (fun j hj => hq j (List.mem_of_mem_erase hj))
      · have := hlt j (List.mem_of_mem_erase hj); simpa using this
      · by_cases e : i = y
        · subst e
          rw [List.getD_eq_getElem?_getD, List.getElem?_set_self (hlt i hi).2]; rfl
        · rw [getD_set_ne e]
          exact hag y fun hm => hy ((hn.mem_erase_iff).2 ⟨fun h => e h.symm, hm⟩)
    · rintro v h ⟨e, _⟩; cases e
theorem AX.rest {ae : AH} {n : Nat} {rem : List Nat} {vs : List AV} (us : List AV) (af' : AF) (hd : drawOK ops = true) (hr : okE rem ops.size = true) (hn : Nat.beq rem.length n = true) (hvl : Nat.beq us.length ops.size = true) (hag : Agree 0 rem vs us) (hq : RestOK C.P ops af ae us rem)
    (he : keep (af'.map (·.1)) (frameOf ops us af (down ops.size)) = af') (k : AW C ds ks af' (ae ++ aq)) : AX C ds ks ops af aq n rem vs ae := by
  obtain ⟨g1, g2⟩ := hag.spec
  obtain ⟨h1, h2⟩ := okE_iff hr
  refine AX.rest_core hd (AW.weaken k fun i v hi => get_keep (he ▸ hi)) n rem vs (by simpa using hn) h1 (fun i hi => ⟨h2 i hi, ?_⟩) (fun y hy => g2 y (by simpa using hy)) hq.mem
  have := h2 i hi
  have hv : us.length = ops.size := by simpa using hvl
  omega
end
end Go.SX
namespace Go.SX
open Go.RowKit
set_option linter.unusedVariables false
section
variable {C : Cx} {ds : List Deferred} {ks : List K} {af : AF} {aq ae : AH} {ops : Array Oper} {n : Nat} {rem : List Nat} {vs : List AV} {q : Nat}
structure AXO (C : Cx) (ds : List Deferred) (ks : List K) (ops : Array Oper) (af : AF) (aq : AH) (n : Nat) (rem : List Nat) (vs : List AV) (ae : AH) (q : Nat) (o : Oper) (f : AF) : Prop where
  out : ∃ Φ : AEnd → AH → Prop, AOp C.P o f ae Φ ∧ (∀ v h, Φ (.ret v) h → AX C ds ks ops af aq n (rem.erase q) (vs.set q v) h) ∧ (∀ v h, Φ (.pan v) h → APan C ds v (h ++ aq))
theorem AXS.at {o : Oper} {f : AF} (ho : ops[q]? = some o) (hkp : keep (oslots ops o) (frameOf ops vs af (down q)) = f) (h : AXO C ds ks ops af aq n rem vs ae q o f) (hg : o.guard = none := by exact rfl) : AXS C ds ks ops af aq n rem vs ae q := by
  obtain ⟨Φ, h1, h2, h3⟩ := h.out
  exact AXS.step ho hg hkp h1 h2 h3
theorem AX.o (q : Nat) {o : Oper} {f : AF} (h : AXO C ds ks ops af aq n rem vs ae q o f) (ho : ops[q]? = some o := by exact rfl) (hkp : keep (oslots ops o) (frameOf ops vs af (down q)) = f := by exact rfl) (hg : o.guard = none := by exact rfl) (hr : readyL ops rem = [q] := by kernel_rfl) : AX C ds ks ops af aq (n + 1) rem vs ae := AX.one q hr (AXS.at ho hkp h hg)
theorem AX.at (q : Nat) (hr : readyL ops rem = [q]) {o : Oper} {f : AF} (ho : ops[q]? = some o) (hkp : keep (oslots ops o) (frameOf ops vs af (down q)) = f) (hg : o.guard = none) (h : AXO C ds ks ops af aq n rem vs ae q o f) : AX C ds ks ops af aq (n + 1) rem vs ae := AX.one q hr (AXS.at ho hkp h hg)
theorem AX.done_keep (is : List Nat) (k : AW C ds ks (keep is (frameOf ops vs af (down ops.size))) (ae ++ aq)) : AX C ds ks ops af aq 0 rem vs ae := AW.weaken k fun i v hi => get_keep hi
variable {o : Oper} {f : AF}
theorem AXO.d {v : AV} {ae' : AH} (h : AOp C.P o f ae (D v ae')) (hk : AX C ds ks ops af aq n (rem.erase q) (vs.set q v) ae') : AXO C ds ks ops af aq n rem vs ae q o f :=
  ⟨_, h, by rintro v' h' ⟨e, rfl⟩; injection e with e; subst e; exact hk, by rintro v' h' ⟨e, _⟩; cases e⟩
theorem AXO.e {v : AV} (hk : AX C ds ks ops af aq n (rem.erase q) (vs.set q v) ae) (h : evalOp f o.op = some v := by exact rfl) : AXO C ds ks ops af aq n rem vs ae q o f := .d (AOp.ev h) hk
theorem AXO.append {x y : Operand} {xs ys : List AV} {tb : Option Nat} {tc i e sz bytes dd : Nat} {v : AV} {t t2 T : TypeId} {ps : String} {es : Array Edge} (hx : aeval f x = some (.slt xs tb tc)) (hi : ae[i]? = some (.tail tb xs.length tc sz)) (hy : aeval f y = some v) (hs : srcOf v = some ys)
    (ht : appTy C.P t = some (e, sz, bytes)) (ht2 : isSlTy C.P t2 = true) (hxs : ∀ x ∈ xs, x.size = sz) (hys : ∀ y ∈ ys, y.size = sz) (hok : AV.cellsOK ys = true) (hb : (xs.length + ys.length) * bytes ≤ 140737488355328) (h63 : xs.length + ys.length ≤ 9223372036854775807) (hn : Nat.blt dd C.n = true)
    (hk : ∀ b' c', AX C ds ks ops af aq n (rem.erase q) (vs.set q (.slt (xs ++ ys) b' c')) (ae.set i (.tail b' (xs ++ ys).length c' sz))) : AXO C ds ks ops af aq n rem vs ae q ⟨some dd, .call ⟨.builtin .append, #[x, y], #[t, t2]⟩, T, ps, es, none⟩ f :=
  ⟨_, AOp.append hx hi hy hs ht ht2 hxs hys hok hb h63, by rintro _ _ ⟨b', c', e, rfl⟩; injection e with e; subst e; exact hk b' c', by rintro _ _ ⟨b', c', e, _⟩; cases e⟩
theorem AXO.lit_own {t T e sz k dd : Nat} {parts : Array (Nat × Operand)} {xs : List Operand} {us : List AV} {ps : String} {es : Array Edge} (ht : litTy C.P t = some (e, sz)) (hp : litOps 0 parts.toList = some xs) (hx : aevals f xs = some us) (hn : us.length = k) (hsz : ∀ v ∈ us, v.size = sz) (hb : k * sz ≤ 16777216)
    (hk : ∀ b, AX C ds ks ops af aq n (rem.erase q) (vs.set q (.slt us (some b) k)) (.tail (some b) k k sz :: ae)) : AXO C ds ks ops af aq n rem vs ae q ⟨some dd, .buildSlice t k parts, T, ps, es, none⟩ f :=
  ⟨_, AOp.lit_own ht hp hx hn hsz hb, by rintro _ _ ⟨b, e, rfl⟩; injection e with e; subst e; exact hk b, by rintro _ _ ⟨b, e, _⟩; cases e⟩
theorem AXO.makeSlice {x y : Operand} {k dd : Nat} {t e bytes T : TypeId} {c : Value} {z : AV} {ps : String} {es : Array Edge} (hx : aeval f x = some (.int .i64 k)) (hy : aeval f y = some (.int .i64 k)) (ht : rowTy C.P t = some (e, c, bytes)) (hz : z.flat = some [c]) (hb : k * bytes ≤ 16777216) (hn : k ≤ 16777216)
    (hk : ∀ b, AX C ds ks ops af aq n (rem.erase q) (vs.set q (.osl b k k)) (.row b (List.replicate k z) :: ae)) : AXO C ds ks ops af aq n rem vs ae q ⟨some dd, .makeSlice t x y, T, ps, es, none⟩ f :=
  ⟨_, AOp.makeSlice hx hy ht hz hb hn, by rintro _ _ ⟨b, e, rfl⟩; injection e with e; subst e; exact hk b, by rintro _ _ ⟨b, e, _⟩; cases e⟩
theorem AXO.callQ {d : Option Tmp} {T : TypeId} {ps : String} {es : Array Edge} {fid : FuncId} {y : Operand} {caps : List AV} {xs : Array Operand} {tys : Array TypeId} {args : List AV} {Φ : AEnd → AH → Prop} (hy : aeval f y = some (.fn fid caps)) (hx : aevals f xs.toList = some args)
    (h : Tri C.P fid (args ++ caps) ae Φ) (hd : okDst d C.n = true) (hk : ∀ v ae', Φ (.ret v) ae' → AX C ds ks ops af aq n (rem.erase q) (vs.set q v) ae') (hp : ∀ v ae', Φ (.pan v) ae' → APan C ds v (ae' ++ aq)) :
    AXO C ds ks ops af aq n rem vs ae q ⟨d, .call ⟨.value y, xs, tys⟩, T, ps, es, none⟩ f := ⟨_, AOp.call hy hx h, hk, hp⟩
theorem AXO.store_leaf (i : Nat) {x y : Operand} {b off : Nat} {c c' v : AV} {t T : TypeId} {ps : String} {es : Array Edge} (hx : aeval f x = some (.ref b off)) (hy : aeval f y = some v) (hi : ae[i]? = some (.box b c)) (hs : c.upd off v = some c') (hok : v.cellOK = true)
    (ht : tkind C.P t = some (v.isSt, v.size)) (hk : ∀ u, AX C ds ks ops af aq n (rem.erase q) (vs.set q u) (ae.set i (.box b c'))) : AXO C ds ks ops af aq n rem vs ae q ⟨none, .store t x y, T, ps, es, none⟩ f :=
  ⟨_, AOp.store_box hx hy hi hs hok ht, by rintro v h ⟨_, rfl⟩; exact hk v, by rintro _ _ ⟨⟨_, e⟩, _⟩; cases e⟩
theorem AXO.sl (i : Nat) {x y : Operand} {b off : Nat} {c c' v : AV} {t T : TypeId} {ps : String} {es : Array Edge} (hk : ∀ u, AX C ds ks ops af aq n (rem.erase q) (vs.set q u) (ae.set i (.box b c'))) (hx : aeval f x = some (.ref b off) := by exact rfl) (hy : aeval f y = some v := by exact rfl) (hi : ae[i]? = some (.box b c) := by exact rfl) (hs : c.upd off v = some c' := by exact rfl) (hok : v.cellOK = true := by exact rfl)
    (ht : tkind C.P t = some (v.isSt, v.size) := by kernel_rfl) : AXO C ds ks ops af aq n rem vs ae q ⟨none, .store t x y, T, ps, es, none⟩ f := .store_leaf i hx hy hi hs hok ht hk
theorem AXO.store_cell (i : Nat) {x y : Operand} {b off : Nat} {xs : List AV} {v : AV} {t T : TypeId} {ps : String} {es : Array Edge} (hx : aeval f x = some (.ref b off)) (hy : aeval f y = some v) (hi : ae[i]? = some (.row b xs)) (hs : off < xs.length) (hok : v.cellOK = true) (hz : v.size = 1)
    (ht : tkind C.P t = some (v.isSt, v.size)) (hk : ∀ u, AX C ds ks ops af aq n (rem.erase q) (vs.set q u) (ae.set i (.row b (xs.set off v)))) : AXO C ds ks ops af aq n rem vs ae q ⟨none, .store t x y, T, ps, es, none⟩ f :=
  ⟨_, AOp.store_row hx hy hi hs hok hz ht, by rintro v h ⟨_, rfl⟩; exact hk v, by rintro _ _ ⟨⟨_, e⟩, _⟩; cases e⟩
end
section
variable {C : Cx} {ds : List Deferred} {ks : List K} {af : AF} {ah : AH}
theorem AW.ex {ops : Array Oper} {ks0 : List K} (id : Nat) (m : List Bool) (E : List Nat) (h : AQE C.P ops (uns m ah) (sel m ah ++ uns m ah) E 0 ops.toList af (fun vs => AX C ds ks ops af (uns m ah) E.length E vs (sel m ah))) (hc : ctlN 99 af ks0 = .c (.region id ops true) :: ks := by exact rfl) (hm : C.P.follows .mixedOrders = true := by exact rfl) (hd : drawOK ops = true := by kernel_rfl) (hn : ops.toList.all (fun o => okDst o.dst C.n) = true := by kernel_rfl) (hqo : quietOK ops E = true := by kernel_rfl) (hE : okE E ops.size = true := by kernel_rfl) : AW C ds ks0 af ah := AW.ctl 99 ks0 (by rw [hc]; exact AW.explore m E hm hd hn hqo hE h)
end
section
variable {P : Program} {ops : Array Oper} {aq aa : AH} {E : List Nat} {n : Nat} {af af' : AF} {K : List AV → Prop} {rest : List Oper} {o : Oper}
theorem AQE.p {v : AV} {d : Nat} (hkp : keep (oslots ops o) af = af') (h : AOp P o af' aq (D v aq)) (k : AQE P ops aq aa E (n + 1) rest ((d, v) :: af) (fun us => K (v :: us))) (hg : o.guard = none := by exact rfl) (hd : o.dst = some d := by exact rfl) : AQE P ops aq aa E n (o :: rest) af K := AQE.op hkp h hg hd k
theorem AQE.pe {v : AV} {d : Nat} (hkp : keep (oslots ops o) af = af') (h : AOp P o af' aa (D v aa)) (k : AQE P ops aq aa E (n + 1) rest ((d, v) :: af) (fun us => K (v :: us))) (hg : o.guard = none := by exact rfl) (hd : o.dst = some d := by exact rfl) (he : earlyB ops E n = true := by kernel_rfl) : AQE P ops aq aa E n (o :: rest) af K := AQE.early he hkp h hg hd k
theorem AQE.e {v : AV} {d : Nat} (k : AQE P ops aq aa E (n + 1) rest ((d, v) :: af) (fun us => K (v :: us))) (hkp : keep (oslots ops o) af = af' := by exact rfl) (h : evalOp af' o.op = some v := by exact rfl) (hg : o.guard = none := by exact rfl) (hd : o.dst = some d := by exact rfl) : AQE P ops aq aa E n (o :: rest) af K := AQE.ev hkp h hg hd k
theorem AQE.gp {v : AV} {d : Nat} (hkp : keep (oslots ops o) af = af') (h : AOp P o af' aq (D v aq)) (k : AQE P ops aq aa E (n + 1) rest ((d, v) :: af) (fun us => K (v :: us))) (hg : gdo ops af' o = some true := by exact rfl) (hd : o.dst = some d := by exact rfl) : AQE P ops aq aa E n (o :: rest) af K := AQE.gop hkp h hg hd k
theorem AQE.gpe {v : AV} {d : Nat} (hkp : keep (oslots ops o) af = af') (h : AOp P o af' aa (D v aa)) (k : AQE P ops aq aa E (n + 1) rest ((d, v) :: af) (fun us => K (v :: us))) (hg : gdo ops af' o = some true := by exact rfl) (hd : o.dst = some d := by exact rfl) (he : earlyB ops E n = true := by kernel_rfl) : AQE P ops aq aa E n (o :: rest) af K :=
  AQE.cons (.inr (.inr ⟨he, .inl ⟨hkp ▸ hg, hkp ▸ h⟩⟩)) (by rw [hd]; exact k)
theorem AQE.ge {v : AV} {d : Nat} (k : AQE P ops aq aa E (n + 1) rest ((d, v) :: af) (fun us => K (v :: us))) (hkp : keep (oslots ops o) af = af' := by exact rfl) (h : evalOp af' o.op = some v := by exact rfl) (hg : gdo ops af' o = some true := by exact rfl) (hd : o.dst = some d := by exact rfl) : AQE P ops aq aa E n (o :: rest) af K := AQE.gop hkp (AOp.ev h) hg hd k
theorem AQE.k {d : Nat} (k : AQE P ops aq aa E (n + 1) rest ((d, .tup []) :: af) (fun us => K (.tup [] :: us))) (hkp : keep (oslots ops o) af = af' := by exact rfl) (hg : gdo ops af' o = some false := by exact rfl) (hd : o.dst = some d := by exact rfl) : AQE P ops aq aa E n (o :: rest) af K := AQE.skip hkp hg hd k
theorem AQE.hl (k : AQE P ops aq aa E (n + 1) rest af' (fun us => K (.any :: us))) (he : memN n E = true := by exact rfl) (hp : put af o.dst .any = af' := by exact rfl) : AQE P ops aq aa E n (o :: rest) af K := AQE.hole he hp k
end
section
variable {P : Program} {af : AF} {ah : AH} {d : Option Tmp} {T : TypeId} {ps : String} {es : Array Edge} {gd : Option (Nat × Bool)}
theorem AOp.makeSlice_ro {x y : Operand} {n : Nat} {t e bytes : Nat} {c : Value} {z : AV} (hx : aeval af x = some (.int .i64 n)) (hy : aeval af y = some (.int .i64 n)) (ht : rowTy P t = some (e, c, bytes)) (hz : z.flat = some [c]) (hzs : z.size = 1) (hb : n * bytes ≤ 16777216) (hn : n ≤ 16777216) :
    AOp P ⟨d, .makeSlice t x y, T, ps, es, gd⟩ af ah (D (.sl (List.replicate n z)) ah) := .mk fun Fr a w hst hf => by
  have h := (AOp.makeSlice (d := d) (T := T) (ps := ps) (es := es) (gd := gd) hx hy ht hz hb hn).out Fr a w hst hf
  refine Out.mono (fun e w' he => ?_) h
  obtain ⟨v, ah', ⟨b, rfl, rfl⟩, ⟨u, rfl, hu⟩, hst', hx', hn'⟩ := he
  obtain ⟨hue, hl1, hl2⟩ := hu.osl
  have hb : OwnRel (Sof Fr (.row b (List.replicate n z) :: ah)) w' (.row b (List.replicate n z)) := hst'.rel (.row b (List.replicate n z)) List.mem_cons_self
  have hsub : St Fr ah w' := hst'.sub (List.sublist_cons_self _ _)
  have hsof : ∀ b' o, Sof Fr ah b' o → Sof Fr (.row b (List.replicate n z) :: ah) b' o := fun b' o h => h.imp id fun ⟨y, hy, hr⟩ => ⟨y, List.mem_cons_of_mem _ hy, hr⟩
  have hno : ∀ o, ¬ Sof Fr ah b o := by
    rintro o (hF | ⟨y, hy, hr⟩)
    · exact hst'.fr (.row b (List.replicate n z)) List.mem_cons_self b rfl o hF
    · have hnd := hst'.nodup
      rw [List.filterMap_cons] at hnd
      have hnd' : (b :: ah.filterMap Own.blk).Nodup := hnd
      exact (List.nodup_cons.1 hnd').1 (List.mem_filterMap.2 ⟨y, hy, reg_blk hr⟩)
  refine ⟨_, _, ⟨rfl, rfl⟩, ⟨u, rfl, ?_, ?_⟩, hsub, hx', fun b' o hb' hr => hr⟩
  · rw [hue]
    show RelC _ _ (.sl (List.replicate n z)) [_]
    simp only [RelC]
    obtain ⟨cs, t', hh, hr⟩ := hb
    refine ⟨_, n, by rw [List.length_replicate], by rw [List.length_replicate]; exact Nat.le_refl _, hl2, fun _ => ⟨b, 0, 1, rfl, ?_⟩⟩
    have key : ∀ (l : List AV) (o : Nat), (∀ (k : Nat) x, l[k]? = some x → ∃ v, cs[o + k]? = some v ∧ RelC (Sof Fr (.row b (List.replicate n z) :: ah)) w' x [v]) → RelRow (Sof Fr ah) w' l 1 b o := by
      intro l
      induction l with
      | nil => intro o _; simp [RelRow]
      | cons x l ih =>
        intro o h
        simp only [RelRow]
        obtain ⟨v, hv, hrv⟩ := h 0 x rfl
        refine ⟨⟨[v], rfl, RelC.mv (Mv.same w' hsof) _ _ hrv, fun j u hj => ?_⟩, ih (o + 1) fun k y hk => ?_⟩
        · cases j with
          | zero => simp only [List.getElem?_cons_zero, Option.some.injEq] at hj; subst hj; exact ⟨hno _, by rw [cell_of_row w' b _ cs t' (0, 0) hh]; exact hv⟩
          | succ j => simp at hj
        · obtain ⟨v, hv, hrv⟩ := h (k + 1) y (by simpa using hk)
          exact ⟨v, by rw [show o + 1 + k = o + (k + 1) by omega]; exact hv, hrv⟩
    exact key _ 0 fun k x hk => by rw [Nat.zero_add]; exact hr k x hk
  · rw [hue]; simp [Shape]
end
section
variable {C : Cx} {ds : List Deferred} {ks : List K} {af : AF} {ah : AH}
theorem AW.recast (i : Nat) {b : Nat} {c c' : AV} (hi : ah[i]? = some (.box b c)) (hc : ∀ S w cs, RelC S w c cs → RelC S w c' cs) (k : AW C ds ks af (ah.set i (.box b c'))) : AW C ds ks af ah := .mk fun a w g => by
  have hs := g.st.update (w' := w) (x' := .box b c') hi (Ext.refl _ _) (fun b' h => .inl h) (fun b' o _ h => h) (fun b' h => g.st.lt _ (List.mem_of_getElem? hi) b' h) (fun m => by
    obtain ⟨cs, t, h1, h2⟩ := g.st.rel _ (List.mem_of_getElem? hi)
    exact ⟨cs, t, h1, hc _ _ _ (RelC.mv m _ _ h2)⟩)
  have hreg : ∀ b' o, reg (ah.set i (.box b c')) b' o → reg ah b' o := by
    rintro b' o ⟨y, hy, hr⟩
    rcases List.mem_or_eq_of_mem_set hy with hy | rfl
    · exact ⟨y, hy, hr⟩
    · exact ⟨_, List.mem_of_getElem? hi, hr⟩
  exact k.out a w ⟨g.size, g.defers, hs.1, g.ext, fun b' o hb h => g.old b' o hb (hreg b' o h), AFRel.mv (Mv.same w fun b' o h => h.imp id (hreg b' o)) g.fr⟩
theorem nil_slt (S : Rg) (w : World) (cs : List Value) (h : RelC S w nilS cs) : RelC S w (.slt [] none 0) cs := by
  simp only [nilS, RelC, Value.cells] at h
  simp only [RelC]
  exact ⟨by simpa using h, by simp, by simp [maxLen], by simp⟩
theorem slt_sl {xs : List AV} {b : Option Nat} {n : Nat} (S : Rg) (w : World) (cs : List Value) (h : RelC S w (.slt xs b n) cs) : RelC S w (.sl xs) cs := by
  simp only [RelC] at h ⊢
  obtain ⟨h1, h2, h3, h4⟩ := h
  exact ⟨_, n, h1, h2, h3, fun hne => by obtain ⟨b', sz, rfl, hr⟩ := h4 hne; exact ⟨b', 0, sz, rfl, hr⟩⟩
theorem rel_last {S : Rg} {w : World} {x y z : AV} {cs : List Value} (h : RelC S w (.st [x, y]) cs) (k : ∀ cs, RelC S w y cs → RelC S w z cs) : RelC S w (.st [x, z]) cs := by
  simp only [RelC] at h ⊢
  rw [RelCs] at h ⊢
  obtain ⟨c1, c2, e1, h1, h2⟩ := h
  rw [RelCs] at h2
  obtain ⟨c3, c4, e2, h3, h4⟩ := h2
  exact ⟨c1, c2, e1, h1, by rw [RelCs]; exact ⟨c3, c4, e2, k _ h3, h4⟩⟩
end
section
variable {P : AV → Prop} {a b : List AV} {y : AV} {n : Nat}
theorem P_nil : ∀ x ∈ ([] : List AV), P x := fun x h => by cases h
theorem P_app (h : ∀ x ∈ a, P x) (k : ∀ x ∈ b, P x) : ∀ x ∈ a ++ b, P x := fun x hx => (List.mem_append.1 hx).elim (h x) (k x)
theorem P_take (h : ∀ x ∈ a, P x) : ∀ x ∈ a.take n, P x := fun x hx => h x (List.mem_of_mem_take hx)
theorem P_drop (h : ∀ x ∈ a, P x) : ∀ x ∈ a.drop n, P x := fun x hx => h x (List.mem_of_mem_drop hx)
theorem P_one (h : P y) : ∀ x ∈ [y], P x := fun x hx => List.mem_singleton.1 hx ▸ h
theorem P_rep (h : P y) : ∀ x ∈ List.replicate n y, P x := fun x hx => (List.mem_replicate.1 hx).2 ▸ h
theorem P_map {α : Type} {g : α → AV} {l : List α} (h : ∀ z, P (g z)) : ∀ x ∈ l.map g, P x := fun x hx => by obtain ⟨z, _, rfl⟩ := List.mem_map.1 hx; exact h z
theorem ok_all : ∀ {a : List AV}, (∀ x ∈ a, x.cellOK = true) → AV.cellsOK a = true
  | [], _ => rfl
  | x :: a, h => by rw [AV.cellsOK, h x (by simp), ok_all fun y hy => h y (by simp [hy])]; rfl
end
end Go.SX
namespace Go.SX
open Go.RowKit
set_option linter.unusedVariables false
set_option linter.unusedSimpArgs false
theorem sizes_one : ∀ {fs : List AV}, (∀ y ∈ fs, y.size = 1) → AV.sizes fs = fs.length
  | [], _ => rfl
  | y :: fs, h => by rw [AV.sizes, h y (by simp), sizes_one fun z hz => h z (by simp [hz]), List.length_cons]; omega
section
variable {P : Program} {af : AF} {ah : AH} {d : Option Tmp} {T : TypeId} {ps : String} {es : Array Edge} {gd : Option (Nat × Bool)}
theorem AOp.index_val (sz : Nat) {x y : Operand} {A : Option Addr} {b n c : Nat} {t : TypeId} {k : IntKind} {i : Int} (hx : aeval af x = some (.val (.slice A n c))) (hA : A = some ⟨b, 0, none⟩) (hy : aeval af y = some (.int k i)) (h0 : 0 ≤ i) (h1 : i < n)
    (he : esize P t = some sz) : AOp P ⟨d, .indexAddr t x y, T, ps, es, gd⟩ af ah (D (.ref b (i.toNat * sz)) ah) :=
  AOp.of_pure fun S a w hfr _ => by
    subst hA
    have hu := (aeval_rel hfr hx).val
    refine ⟨_, by simp only [execOp, hu, (aeval_rel hfr hy).int, Sem.run_bind, run_indexAt he h0 h1, Result.andThen_ok]; simp; rfl, ?_⟩
    rw [addr_add]
    simpa using mk_ref
theorem row_size {S : Rg} {w : World} {b : Nat} {xs : List AV} {cs : Array Value} (hr : ∀ (i : Nat) x, xs[i]? = some x → ∃ v, cs[i]? = some v ∧ RelC S w x [v]) : xs.length ≤ cs.size := by
  rcases Nat.eq_zero_or_pos xs.length with h | h
  · omega
  · obtain ⟨v, hv, _⟩ := hr (xs.length - 1) xs[xs.length - 1] (List.getElem?_eq_getElem (by omega))
    have := (Array.getElem?_eq_some_iff.1 hv).1
    omega
theorem row_read {w w' : World} {b n c sz m : Nat} {cs : Array Value} {tt : TypeId} (hh : w.heap[b]? = some (.cells cs tt (0, 0))) (hw : w'.heap = w.heap) (hm : m * sz ≤ cs.size) :
    (Builtin.firstCells sz m (.slice (some ⟨b, 0, none⟩) n c)).run P w' = .ok (cs.toList.take (m * sz)).toArray w' := by
  simp only [Builtin.firstCells, loadCells]
  rw [run_loadCellsFrom _ 0 (cs.toList.take (m * sz)) #[] (by simp; omega) (fun k v hk => by
    rw [addr_add, cell_of_row w' b _ cs tt (0, 0) (by rw [hw]; exact hh)]
    rw [List.getElem?_take] at hk
    split at hk
    · simpa using hk
    · cases hk)]
  simp
theorem src_one {S : Rg} {w w' : World} {fs : List AV} {A : Option Addr} {c sz : Nat} (h : ([AV.st fs] : List AV) ≠ [] → ∃ b o sz, A = some ⟨b, o, none⟩ ∧ RelRow S w [AV.st fs] sz b o) (hf1 : ∀ y ∈ fs, y.size = 1) (hsz : fs.length = sz) (hw : w'.heap = w.heap) :
    ∃ ds : List Value, (Builtin.firstCells sz 1 (.slice A 1 c)).run P w' = .ok ds.toArray w' ∧ RelCs S w fs ds ∧ ds.length = sz := by
  obtain ⟨ds, h1, h2, h3⟩ := run_first (P := P) (w' := w') (c := c) (sz := sz) h (by intro y hy; rw [List.mem_singleton.1 hy]; simp only [AV.size]; rw [sizes_one hf1, hsz]) hw
  refine ⟨ds, h1, ?_, by simpa using h3⟩
  rw [RelCs] at h2
  obtain ⟨c1, c2, e, k1, k2⟩ := h2
  rw [RelCs] at k2
  subst k2
  rw [RelC] at k1
  rw [e, List.append_nil]
  exact k1
theorem AOp.append_own {x y : Operand} {b n c i sz e bytes : Nat} {us fs : List AV} {t t2 : TypeId} (hx : aeval af x = some (.osl b n c)) (hi : ah[i]? = some (.row b (us ++ List.replicate ((c - n) * sz) .any))) (hu : us.length = n * sz) (hy : aeval af y = some (.sl [.st fs])) (hfl : fs.length = sz) (hf1 : ∀ y ∈ fs, y.size = 1) (hok : AV.cellsOK fs = true)
    (ht : appTy P t = some (e, sz, bytes)) (ht2 : isSlTy P t2 = true) (hb : (n + 1) * bytes ≤ 140737488355328) (h63 : n + 1 ≤ 9223372036854775807) :
    AOp P ⟨d, .call ⟨.builtin .append, #[x, y], #[t, t2]⟩, T, ps, es, gd⟩ af ah (fun r h => ∃ b' c', n + 1 ≤ c' ∧ r = .ret (.osl b' (n + 1) c') ∧ h = ah.set i (.row b' (us ++ fs ++ List.replicate ((c' - (n + 1)) * sz) .any))) := .mk fun Fr a w hst hf => by
  obtain ⟨hux, hl1, hl2⟩ := (aeval_rel hf hx).osl
  obtain ⟨A2, c2, hu2, hl2', hm2, hrow2⟩ := srcOf_rel (aeval_rel hf hy) rfl
  have him := List.mem_of_getElem? hi
  obtain ⟨cs, tt, hh, hr⟩ := hst.rel _ him
  have hsz0 := row_size (b := b) hr
  have hcsz : n * sz + (c - n) * sz ≤ cs.size := by rw [List.length_append, hu, List.length_replicate] at hsz0; exact hsz0
  have hpos : 0 < sz := by obtain ⟨_, _, _, _, _, _, _, _, h⟩ := appTy_parts ht; exact h
  have hexec : ∀ r, (Builtin.append_ #[t, t2] T #[.slice (some ⟨b, 0, none⟩) n c, .slice A2 1 c2]).run P w = r → (execOp a.eval ⟨d, .call ⟨.builtin .append, #[x, y], #[t, t2]⟩, T, ps, es, gd⟩).run P w = r.andThen fun v w' => .ok (.value v) w' := by
    intro r hr
    simp only [execOp, resolve, invoke, builtin, Sem.run_bind, Sem.run_pure, Result.andThen_ok, List.map_toArray, List.map_cons, List.map_nil, hux, hu2]
    simp only [List.length_cons, List.length_nil, Nat.zero_add]
    rw [hr]
  by_cases hroom : n + 1 ≤ c
  · obtain ⟨news, hn1, hn2, hn3⟩ := src_one (P := P) (w' := w) (c := c2) hrow2 hf1 hfl rfl
    have hrun := run_append_room (ty := T) (base := some ⟨b, 0, none⟩) (n := n) (cap := c) ht ht2 hn1 hroom
    have hmul : (c - n) * sz = sz + (c - (n + 1)) * sz := by rw [show c - n = (c - (n + 1)) + 1 by omega, Nat.add_mul]; omega
    obtain ⟨w', r1, k1, k2, k3⟩ := hst.laid (P := P) (ys := fs) (ds := news) (o := n * sz) hi (by rw [List.length_append, hu, List.length_replicate, hfl, hmul]; omega) (by rw [hn3, hfl]) (RelCs.cellOK _ news hn2 hok) (fun j y hj => RelCs.get1 hn2 hf1 j y hj)
    simp only [addr_add, Nat.zero_add, r1, Result.andThen_ok] at hrun
    rw [hexec _ hrun]
    simp only [Result.andThen_ok]
    have hrw : (us ++ List.replicate ((c - n) * sz) AV.any).take (n * sz) ++ fs ++ (us ++ List.replicate ((c - n) * sz) AV.any).drop (n * sz + fs.length) = us ++ fs ++ List.replicate ((c - (n + 1)) * sz) AV.any := by
      rw [← hu, List.take_left, hfl, ← List.drop_drop, List.drop_left, List.drop_replicate, hmul]
      congr 2
      omega
    rw [hrw] at k1 k3
    exact ⟨_, _, ⟨b, c, hroom, rfl, rfl⟩, ⟨_, rfl, mk_osl hroom hl2⟩, k1, k2, k3⟩
  · obtain rfl : c = n := by omega
    obtain ⟨news, hn1, hn2, hn3⟩ := src_one (P := P) (w' := w.drew) (c := c2) hrow2 hf1 hfl rfl
    have ho1 := row_read (P := P) (w' := w.drew) (n := c) (c := c) (sz := sz) (m := c) hh rfl (by omega)
    obtain ⟨c', z, hc1, hc2, hzs, hrun⟩ := run_append_grow (ty := T) ht ht2 hn1 ho1 (by omega) hb (by simpa [maxLen] using h63)
    rw [hexec _ hrun]
    simp only [Result.andThen_ok]
    rw [Nat.sub_self, Nat.zero_mul, List.replicate_zero, List.append_nil] at hr hi
    have hol : (cs.toList.take (c * sz)).length = c * sz := by rw [List.length_take, Array.length_toList]; omega
    generalize hcs : (cs.toList.take (c * sz)).toArray ++ news.toArray ++ Builtin.zeroCells z.cells (c' - (c + 1)) = cs'
    have hcsz' : cs'.size = c' * sz := by
      rw [← hcs]
      simp only [Array.size_append, List.size_toArray, size_zeroCells, hol, hn3, hzs]
      rw [show c' * sz = (c + 1 + (c' - (c + 1))) * sz by congr 1; omega, Nat.add_mul, Nat.add_mul]
      omega
    have hext0 : Ext (fun _ _ => False) w (w.drew.alloc (.cells cs' e)) :=
      ⟨rfl, rfl, rfl, by simp, fun k hk _ => Below.heap_alloc w.drew _ k hk, fun ad v hc _ => (World.cell?_alloc_lt w.drew _ ad (cell_lt hc)).trans hc⟩
    obtain ⟨k1, k2, k3⟩ := hst.update (x' := .row w.heap.size (us ++ fs ++ List.replicate ((c' - (c + 1)) * sz) .any)) hi (hext0.mono fun _ _ h => h.elim) (fun k h => .inr (by simp only [Own.blk, Option.some.injEq] at h; omega))
      (fun k o hk h => by have h' : k = w.heap.size := h; omega) (fun k h => by simp only [Own.blk, Option.some.injEq] at h; subst h; simp) (fun m => by
        refine ⟨cs', e, heap_alloc_new w.drew _, fun j v hj => ?_⟩
        have hjl := (List.getElem?_eq_some_iff.1 hj).1
        simp only [List.length_append, List.length_replicate, hu, hfl] at hjl
        have e1 : c' * sz = c * sz + sz + (c' - (c + 1)) * sz := by
          rw [show c' * sz = (c + 1 + (c' - (c + 1))) * sz by congr 1; omega, Nat.add_mul, Nat.add_mul]; omega
        by_cases h1 : j < c * sz
        · rw [List.append_assoc, List.getElem?_append_left (by omega)] at hj
          obtain ⟨u, hu1, hu2⟩ := hr j v hj
          refine ⟨u, ?_, RelC.mv m _ _ hu2⟩
          rw [← hcs, Array.append_assoc, Array.getElem?_append_left (by simp only [List.size_toArray]; omega)]
          simp only [List.getElem?_toArray]
          rw [List.getElem?_take, if_pos h1]
          simpa using hu1
        · by_cases h2 : j < c * sz + sz
          · rw [List.getElem?_append_left (by simp only [List.length_append, hu, hfl]; omega), List.getElem?_append_right (by omega), hu] at hj
            obtain ⟨u, hu1, hu2⟩ := RelCs.get1 hn2 hf1 _ v hj
            refine ⟨u, ?_, RelC.mv m _ _ hu2⟩
            rw [← hcs, Array.getElem?_append_left (by simp only [Array.size_append, List.size_toArray]; omega), Array.getElem?_append_right (by simp only [List.size_toArray]; omega)]
            simp only [List.getElem?_toArray, List.size_toArray, hol]
            exact hu1
          · rw [List.getElem?_append_right (by simp only [List.length_append, hu, hfl]; omega), List.getElem?_replicate] at hj
            split at hj
            · obtain rfl := Option.some.inj hj
              exact ⟨cs'[j]'(by omega), Array.getElem?_eq_getElem _, by simp [RelC]⟩
            · cases hj)
    exact ⟨_, _, ⟨w.heap.size, c', hc1, rfl, rfl⟩, ⟨_, rfl, mk_osl hc1 hc2⟩, k1, k2, k3⟩
theorem AOp.append_own0 {x y : Operand} {sz e bytes : Nat} {fs : List AV} {t t2 : TypeId} (hx : aeval af x = some nilS) (hy : aeval af y = some (.sl [.st fs])) (hfl : fs.length = sz) (hf1 : ∀ y ∈ fs, y.size = 1)
    (ht : appTy P t = some (e, sz, bytes)) (ht2 : isSlTy P t2 = true) (hb : bytes ≤ 140737488355328) :
    AOp P ⟨d, .call ⟨.builtin .append, #[x, y], #[t, t2]⟩, T, ps, es, gd⟩ af ah (fun r h => ∃ b' c', 1 ≤ c' ∧ r = .ret (.osl b' 1 c') ∧ h = .row b' (fs ++ List.replicate ((c' - 1) * sz) .any) :: ah) := .mk fun Fr a w hst hf => by
  have hux := (aeval_rel hf hx).val
  obtain ⟨A2, c2, hu2, hl2', hm2, hrow2⟩ := srcOf_rel (aeval_rel hf hy) rfl
  have hexec : ∀ r, (Builtin.append_ #[t, t2] T #[.slice none 0 0, .slice A2 1 c2]).run P w = r → (execOp a.eval ⟨d, .call ⟨.builtin .append, #[x, y], #[t, t2]⟩, T, ps, es, gd⟩).run P w = r.andThen fun v w' => .ok (.value v) w' := by
    intro r hr
    simp only [execOp, resolve, invoke, builtin, Sem.run_bind, Sem.run_pure, Result.andThen_ok, List.map_toArray, List.map_cons, List.map_nil, hux, hu2]
    simp only [List.length_cons, List.length_nil, Nat.zero_add]
    rw [hr]
  obtain ⟨news, hn1, hn2, hn3⟩ := src_one (P := P) (w' := w.drew) (c := c2) hrow2 hf1 hfl rfl
  have hold : (Builtin.firstCells sz 0 (.slice none 0 0)).run P w.drew = .ok ([] : List Value).toArray w.drew := by simp [Builtin.firstCells]
  obtain ⟨c', z, hc1, hc2, hzs, hrun⟩ := run_append_grow (ty := T) ht ht2 hn1 hold (by omega) (by omega) (by simp [maxLen])
  rw [Nat.zero_add] at hc1 hrun
  rw [hexec _ hrun]
  simp only [Result.andThen_ok]
  generalize hcs : ([] : List Value).toArray ++ news.toArray ++ Builtin.zeroCells z.cells (c' - 1) = cs'
  have hcsz' : cs'.size = sz + (c' - 1) * sz := by
    rw [← hcs]
    simp only [Array.size_append, List.size_toArray, size_zeroCells, hn3, hzs, List.length_nil, Nat.zero_add]
  have hext0 : Ext (fun _ _ => False) w (w.drew.alloc (.cells cs' e)) :=
    ⟨rfl, rfl, rfl, by simp, fun k hk _ => Below.heap_alloc w.drew _ k hk, fun ad v hc _ => (World.cell?_alloc_lt w.drew _ ad (cell_lt hc)).trans hc⟩
  obtain ⟨k1, k2, k3⟩ := hst.cons (x := .row w.heap.size (fs ++ List.replicate ((c' - 1) * sz) .any)) (b := w.heap.size) rfl (Nat.le_refl _) (by simp) hext0 (fun m => by
      refine ⟨cs', e, heap_alloc_new w.drew _, fun j v hj => ?_⟩
      have hjl := (List.getElem?_eq_some_iff.1 hj).1
      simp only [List.length_append, List.length_replicate, hfl] at hjl
      by_cases h2 : j < sz
      · rw [List.getElem?_append_left (by omega)] at hj
        obtain ⟨u, hu1, hu2⟩ := RelCs.get1 hn2 hf1 _ v hj
        refine ⟨u, ?_, RelC.mv m _ _ hu2⟩
        rw [← hcs, Array.getElem?_append_left (by simp only [Array.size_append, List.size_toArray, List.length_nil]; omega), Array.getElem?_append_right (by simp)]
        simpa using hu1
      · rw [List.getElem?_append_right (by omega), List.getElem?_replicate] at hj
        split at hj
        · obtain rfl := Option.some.inj hj
          exact ⟨cs'[j]'(by omega), Array.getElem?_eq_getElem _, by simp [RelC]⟩
        · cases hj)
  exact ⟨_, _, ⟨w.heap.size, c', hc1, rfl, rfl⟩, ⟨_, rfl, mk_osl hc1 hc2⟩, k1, k2, k3⟩
theorem AOp.append_clone {x y : Operand} {b0 b2 n2 cc2 i j e bytes : Nat} {ys : List AV} {t t2 : TypeId} (hx : aeval af x = some (.slt [] (some b0) 0)) (hi : ah[i]? = some (.tail (some b0) 0 0 1)) (hy : aeval af y = some (.osl b2 n2 cc2)) (hj : ah[j]? = some (.row b2 ys)) (hn2 : n2 = ys.length) (hp : 0 < n2)
    (ht : appTy P t = some (e, 1, bytes)) (ht2 : isSlTy P t2 = true) (hb : n2 * bytes ≤ 140737488355328) (h63 : n2 ≤ 9223372036854775807) :
    AOp P ⟨d, .call ⟨.builtin .append, #[x, y], #[t, t2]⟩, T, ps, es, gd⟩ af ah (fun r h => ∃ b' c', n2 ≤ c' ∧ r = .ret (.osl b' n2 c') ∧ h = ah.set i (.row b' ys)) := .mk fun Fr a w hst hf => by
  obtain ⟨hux, _, _, _⟩ := (aeval_rel hf hx).slt
  obtain ⟨hu2, hl1, hl2⟩ := (aeval_rel hf hy).osl
  obtain ⟨cs, tt, hh, hr⟩ := hst.rel _ (List.mem_of_getElem? hj)
  have hsz0 := row_size (b := b2) hr
  have hexec : ∀ r, (Builtin.append_ #[t, t2] T #[.slice (some ⟨b0, 0, none⟩) 0 0, .slice (some ⟨b2, 0, none⟩) n2 cc2]).run P w = r → (execOp a.eval ⟨d, .call ⟨.builtin .append, #[x, y], #[t, t2]⟩, T, ps, es, gd⟩).run P w = r.andThen fun v w' => .ok (.value v) w' := by
    intro r hr
    simp only [execOp, resolve, invoke, builtin, Sem.run_bind, Sem.run_pure, Result.andThen_ok, List.map_toArray, List.map_cons, List.map_nil, hux, hu2, Option.map_some, List.length_nil]
    rw [hr]
  have hn1 := row_read (P := P) (w' := w.drew) (n := n2) (c := cc2) (sz := 1) (m := n2) hh rfl (by omega)
  have hold : (Builtin.firstCells 1 0 (.slice (some ⟨b0, 0, none⟩) 0 0)).run P w.drew = .ok ([] : List Value).toArray w.drew := by simp [Builtin.firstCells, loadCells, loadCellsFrom]
  obtain ⟨c', z, hc1, hc2, hzs, hrun⟩ := run_append_grow (ty := T) ht ht2 hn1 hold (by omega) (by rw [Nat.zero_add]; exact hb) (by simpa [maxLen] using h63)
  rw [Nat.zero_add] at hc1 hrun
  rw [hexec _ hrun]
  simp only [Result.andThen_ok]
  rw [Nat.mul_one] at *
  generalize hcs : ([] : List Value).toArray ++ (cs.toList.take n2).toArray ++ Builtin.zeroCells z.cells (c' - n2) = cs'
  have hext0 : Ext (fun _ _ => False) w (w.drew.alloc (.cells cs' e)) :=
    ⟨rfl, rfl, rfl, by simp, fun k hk _ => Below.heap_alloc w.drew _ k hk, fun ad v hc _ => (World.cell?_alloc_lt w.drew _ ad (cell_lt hc)).trans hc⟩
  obtain ⟨k1, k2, k3⟩ := hst.update (x' := .row w.heap.size ys) hi (hext0.mono fun _ _ h => h.elim) (fun k h => .inr (by simp only [Own.blk, Option.some.injEq] at h; omega))
    (fun k o hk h => by have h' : k = w.heap.size := h; omega) (fun k h => by simp only [Own.blk, Option.some.injEq] at h; subst h; simp) (fun m => by
      refine ⟨cs', e, heap_alloc_new w.drew _, fun k v hk => ?_⟩
      have hkl := (List.getElem?_eq_some_iff.1 hk).1
      obtain ⟨u, hu1, hu2⟩ := hr k v hk
      refine ⟨u, ?_, RelC.mv m _ _ hu2⟩
      rw [← hcs, Array.getElem?_append_left (by simp only [Array.size_append, List.size_toArray, List.length_nil, List.length_take, Array.length_toList]; omega), Array.getElem?_append_right (by simp)]
      simp only [List.getElem?_toArray, List.size_toArray, List.length_nil, Nat.sub_zero]
      rw [List.getElem?_take, if_pos (by omega)]
      simpa using hu1)
  exact ⟨_, _, ⟨w.heap.size, c', hc1, rfl, rfl⟩, ⟨_, rfl, mk_osl hc1 hc2⟩, k1, k2, k3⟩
end
section
variable {C : Cx} {ds : List Deferred} {ks : List K} {af : AF} {aq ae : AH} {ops : Array Oper} {n : Nat} {rem : List Nat} {vs : List AV} {q : Nat} {f : AF}
theorem AX.og (q : Nat) {o : Oper} {f : AF} (h : AXO C ds ks ops af aq n rem vs ae q o f) (ho : ops[q]? = some o := by exact rfl) (hkp : keep (oslots ops o) (frameOf ops vs af (down q)) = f := by exact rfl) (hg : gdo ops f o = some true := by exact rfl) (hr : readyL ops rem = [q] := by kernel_rfl) : AX C ds ks ops af aq (n + 1) rem vs ae :=
  AX.one q hr (by obtain ⟨Φ, h1, h2, h3⟩ := h.out; exact ⟨o, ho, .inr ⟨hkp ▸ hg, Φ, hkp ▸ h1, h2, h3⟩⟩)
theorem AXO.append_own {x y : Operand} {b k c i sz e bytes dd : Nat} {us fs : List AV} {t t2 T : TypeId} {ps : String} {es : Array Edge} (hx : aeval f x = some (.osl b k c)) (hi : ae[i]? = some (.row b (us ++ List.replicate ((c - k) * sz) .any))) (hu : us.length = k * sz) (hy : aeval f y = some (.sl [.st fs])) (hfl : fs.length = sz) (hf1 : ∀ y ∈ fs, y.size = 1) (hok : AV.cellsOK fs = true)
    (ht : appTy C.P t = some (e, sz, bytes)) (ht2 : isSlTy C.P t2 = true) (hb : (k + 1) * bytes ≤ 140737488355328) (h63 : k + 1 ≤ 9223372036854775807)
    (hk : ∀ b' c', k + 1 ≤ c' → AX C ds ks ops af aq n (rem.erase q) (vs.set q (.osl b' (k + 1) c')) (ae.set i (.row b' (us ++ fs ++ List.replicate ((c' - (k + 1)) * sz) .any)))) : AXO C ds ks ops af aq n rem vs ae q ⟨some dd, .call ⟨.builtin .append, #[x, y], #[t, t2]⟩, T, ps, es, none⟩ f :=
  ⟨_, AOp.append_own hx hi hu hy hfl hf1 hok ht ht2 hb h63, by rintro _ _ ⟨b', c', h, e, rfl⟩; injection e with e; subst e; exact hk b' c' h, by rintro _ _ ⟨b', c', _, e, _⟩; cases e⟩
theorem AXO.append_own0 {x y : Operand} {sz e bytes dd : Nat} {fs : List AV} {t t2 T : TypeId} {ps : String} {es : Array Edge} (hx : aeval f x = some nilS) (hy : aeval f y = some (.sl [.st fs])) (hfl : fs.length = sz) (hf1 : ∀ y ∈ fs, y.size = 1)
    (ht : appTy C.P t = some (e, sz, bytes)) (ht2 : isSlTy C.P t2 = true) (hb : bytes ≤ 140737488355328)
    (hk : ∀ b' c', 1 ≤ c' → AX C ds ks ops af aq n (rem.erase q) (vs.set q (.osl b' 1 c')) (.row b' (fs ++ List.replicate ((c' - 1) * sz) .any) :: ae)) : AXO C ds ks ops af aq n rem vs ae q ⟨some dd, .call ⟨.builtin .append, #[x, y], #[t, t2]⟩, T, ps, es, none⟩ f :=
  ⟨_, AOp.append_own0 hx hy hfl hf1 ht ht2 hb, by rintro _ _ ⟨b', c', h, e, rfl⟩; injection e with e; subst e; exact hk b' c' h, by rintro _ _ ⟨b', c', _, e, _⟩; cases e⟩
theorem AXO.append_clone {x y : Operand} {b0 b2 n2 cc2 i j e bytes dd : Nat} {ys : List AV} {t t2 T : TypeId} {ps : String} {es : Array Edge} (hx : aeval f x = some (.slt [] (some b0) 0)) (hi : ae[i]? = some (.tail (some b0) 0 0 1)) (hy : aeval f y = some (.osl b2 n2 cc2)) (hj : ae[j]? = some (.row b2 ys)) (hn2 : n2 = ys.length) (hp : 0 < n2)
    (ht : appTy C.P t = some (e, 1, bytes)) (ht2 : isSlTy C.P t2 = true) (hb : n2 * bytes ≤ 140737488355328) (h63 : n2 ≤ 9223372036854775807)
    (hk : ∀ b' c', n2 ≤ c' → AX C ds ks ops af aq n (rem.erase q) (vs.set q (.osl b' n2 c')) (ae.set i (.row b' ys))) : AXO C ds ks ops af aq n rem vs ae q ⟨some dd, .call ⟨.builtin .append, #[x, y], #[t, t2]⟩, T, ps, es, none⟩ f :=
  ⟨_, AOp.append_clone hx hi hy hj hn2 hp ht ht2 hb h63, by rintro _ _ ⟨b', c', h, e, rfl⟩; injection e with e; subst e; exact hk b' c' h, by rintro _ _ ⟨b', c', _, e, _⟩; cases e⟩
end
end Go.SX
namespace Go.SX
open Go.RowKit
set_option linter.unusedVariables false
set_option linter.unusedSimpArgs false
theorem relc_frozen {Fr : Rg} {ah : AH} {w : World} (st : St Fr ah w) {i b n c : Nat} {xs : List AV} (hi : ah[i]? = some (.row b xs)) (hn : n = xs.length) (hs : ∀ x ∈ xs, x.size = 1) {cs' : List Value} (h : RelC (Sof Fr (ah.eraseIdx i)) w (.osl b n c) cs') : RelC (Sof Fr (ah.eraseIdx i)) w (.sl xs) cs' := by
  obtain ⟨cs, t, hh, hr⟩ := st.rel _ (List.mem_of_getElem? hi)
  have hbm := List.mem_of_getElem? hi
  have hsof : ∀ b o, Sof Fr (ah.eraseIdx i) b o → Sof Fr ah b o := fun b o hs => hs.elim .inl fun hr => .inr (reg_sub (List.eraseIdx_sublist ah i) hr)
  simp only [RelC] at h ⊢
  obtain ⟨rfl, hl1, hl2⟩ := h
  subst hn
  refine ⟨_, c, rfl, hl1, hl2, fun _ => ⟨b, 0, 1, rfl, ?_⟩⟩
  have hno : ∀ o, ¬ Sof Fr (ah.eraseIdx i) b o := by
    rintro o (hF | ⟨y, hy, hy'⟩)
    · exact st.fr _ hbm b rfl _ hF
    · have hyb := reg_blk hy'
      obtain ⟨e1, _⟩ := mem_split hi
      have hn := st.nodup
      rw [e1, List.filterMap_append, List.nodup_append, List.filterMap_cons] at hn
      simp only [Own.blk] at hn
      rw [List.eraseIdx_eq_take_drop_succ] at hy
      rcases List.mem_append.1 hy with hy | hy
      · exact hn.2.2 b (List.mem_filterMap.2 ⟨y, hy, hyb⟩) b (by simp) rfl
      · exact (List.nodup_cons.1 hn.2.1).1 (List.mem_filterMap.2 ⟨y, hy, hyb⟩)
  have key : ∀ (l : List AV) (o : Nat), (∀ (k : Nat) x, l[k]? = some x → ∃ v, cs[o + k]? = some v ∧ RelC (Sof Fr ah) w x [v]) → RelRow (Sof Fr (ah.eraseIdx i)) w l 1 b o := by
    intro l
    induction l with
    | nil => intro o _; simp [RelRow]
    | cons x l ih =>
      intro o h
      simp only [RelRow]
      obtain ⟨v, hv, hrv⟩ := h 0 x rfl
      refine ⟨⟨[v], rfl, RelC.mv (Mv.same w hsof) _ _ hrv, fun j u hj => ⟨hno _, ?_⟩⟩, ih (o + 1) fun k y hk => ?_⟩
      · cases j with
        | zero => simp only [List.getElem?_cons_zero, Option.some.injEq] at hj; subst hj; rw [cell_of_row w b _ cs t (0, 0) hh]; exact hv
        | succ j => simp at hj
      · obtain ⟨v, hv, hrv⟩ := h (k + 1) y (by simpa using hk)
        exact ⟨v, by rw [show o + 1 + k = o + (k + 1) by omega]; exact hv, hrv⟩
  exact key xs 0 fun k x hk => by rw [Nat.zero_add]; exact hr k x hk
section
variable {C : Cx} {ds : List Deferred} {ks : List K} {af : AF} {ah : AH}
theorem AW.freeze_at (i d : Nat) {b n c : Nat} {xs : List AV} {v v' : AV} (hi : ah[i]? = some (.row b xs)) (hd : get af d = some v) (hn : n = xs.length) (hs : ∀ x ∈ xs, x.size = 1) (hsh : ∀ u, Shape v u → Shape v' u)
    (hv : ∀ (S : Rg) w, (∀ cs, RelC S w (.osl b n c) cs → RelC S w (.sl xs) cs) → ∀ cs, RelC S w v cs → RelC S w v' cs) (k : AW C ds ks ((d, v') :: af) (ah.eraseIdx i)) : AW C ds ks af ah := .mk fun a w g => by
  have g' := g.sub (List.eraseIdx_sublist ah i)
  refine k.out a w { g' with fr := fun j u hj => ?_ }
  rw [get_cons] at hj
  by_cases e : d = j
  · subst e
    rw [if_pos rfl] at hj
    obtain rfl := Option.some.inj hj
    have h1 := g'.fr d _ hd
    exact ⟨hv _ _ (fun cs h => relc_frozen g.st hi hn hs h) _ h1.1, hsh _ h1.2⟩
  · rw [if_neg e] at hj
    exact g'.fr j u hj
end
section
variable {C : Cx} {ds : List Deferred} {ks : List K} {af : AF} {ah : AH}
theorem AW.row_pre (i : Nat) {b : Nat} {xs ys : List AV} (hi : ah[i]? = some (.row b (xs ++ ys))) (k : AW C ds ks af (ah.set i (.row b xs))) : AW C ds ks af ah := .mk fun a w g => by
  have hs := g.st.update (w' := w) (x' := .row b xs) hi (Ext.refl _ _) (fun b' h => .inl h) (fun b' o _ h => h) (fun b' h => g.st.lt _ (List.mem_of_getElem? hi) b' h) (fun m => by
    obtain ⟨cs, t, h1, h2⟩ := g.st.rel _ (List.mem_of_getElem? hi)
    refine ⟨cs, t, h1, fun j x hj => ?_⟩
    obtain ⟨v, hv, hr⟩ := h2 j x (by rw [List.getElem?_append_left (List.getElem?_eq_some_iff.1 hj).1]; exact hj)
    exact ⟨v, hv, RelC.mv m _ _ hr⟩)
  have hreg : ∀ b' o, reg (ah.set i (.row b xs)) b' o → reg ah b' o := by
    rintro b' o ⟨y, hy, hr⟩
    rcases List.mem_or_eq_of_mem_set hy with hy | rfl
    · exact ⟨y, hy, hr⟩
    · exact ⟨_, List.mem_of_getElem? hi, hr⟩
  exact k.out a w ⟨g.size, g.defers, hs.1, g.ext, fun b' o hb h => g.old b' o hb (hreg b' o h), AFRel.mv (Mv.same w fun b' o h => h.imp id (hreg b' o)) g.fr⟩
end
section
variable {S : Rg} {w : World}
theorem rel_set : ∀ {fs : List AV} {i : Nat} {y z : AV} {cs : List Value}, fs[i]? = some y → (∀ cs, RelC S w y cs → RelC S w z cs) → RelCs S w fs cs → RelCs S w (fs.set i z) cs
  | [], i, y, z, cs, h, _, _ => by simp at h
  | x :: fs, 0, y, z, cs, h, k, hr => by
    obtain rfl : x = y := by simpa using h
    rw [RelCs] at hr
    obtain ⟨c1, c2, e, h1, h2⟩ := hr
    rw [List.set_cons_zero, RelCs]
    exact ⟨c1, c2, e, k _ h1, h2⟩
  | x :: fs, i + 1, y, z, cs, h, k, hr => by
    rw [RelCs] at hr
    obtain ⟨c1, c2, e, h1, h2⟩ := hr
    rw [List.set_cons_succ, RelCs]
    exact ⟨c1, c2, e, h1, rel_set (by simpa using h) k h2⟩
theorem relc_set {fs : List AV} {cs : List Value} (i : Nat) {y : AV} (z : AV) (hi : fs[i]? = some y) (k : ∀ cs, RelC S w y cs → RelC S w z cs) (h : RelC S w (.st fs) cs) : RelC S w (.st (fs.set i z)) cs := by
  rw [RelC] at h ⊢
  exact rel_set hi k h
theorem relc_at {x y : AV} (k : ∀ cs, RelC S w x cs → RelC S w y cs) {cs : List Value} (h : RelC S w (.at x) cs) : RelC S w (.at y) cs := by
  simp only [RelC] at h ⊢
  obtain ⟨b, o, ds, e, h1, h2⟩ := h
  exact ⟨b, o, ds, e, k _ h1, h2⟩
theorem osl_val {b n c : Nat} {cs : List Value} (h : RelC S w (.osl b n c) cs) : RelC S w (.val (.slice (some ⟨b, 0, none⟩) n c)) cs := by
  simp only [RelC] at h ⊢
  rw [h.1]; rfl
end
section
variable {C : Cx} {ds : List Deferred} {ks : List K} {af : AF} {aq ae : AH} {ops : Array Oper} {n : Nat} {rem : List Nat} {vs : List AV} {q : Nat} {f : AF}
theorem AXO.makeSliceE {x y : Operand} {k dd : Nat} {i : Int} {t e bytes T : TypeId} {c : Value} {z : AV} {ps : String} {es : Array Edge} (hx : aeval f x = some (.int .i64 i)) (hy : aeval f y = some (.int .i64 i)) (hik : i = (k : Int)) (ht : rowTy C.P t = some (e, c, bytes)) (hz : z.flat = some [c]) (hb : k * bytes ≤ 16777216) (hn : k ≤ 16777216)
    (hk : ∀ b, AX C ds ks ops af aq n (rem.erase q) (vs.set q (.osl b k k)) (.row b (List.replicate k z) :: ae)) : AXO C ds ks ops af aq n rem vs ae q ⟨some dd, .makeSlice t x y, T, ps, es, none⟩ f := by
  subst hik
  exact AXO.makeSlice hx hy ht hz hb hn hk
theorem AXO.box {dd : Nat} {x : Operand} {v : AV} {t T : TypeId} {ps : String} {es : Array Edge} (hx : aeval f x = some v) (hv : v.isAny = false) (hk : ∀ b, AX C ds ks ops af aq n (rem.erase q) (vs.set q (.ref b 0)) (.box b v :: ae)) : AXO C ds ks ops af aq n rem vs ae q ⟨some dd, .box t x, T, ps, es, none⟩ f :=
  ⟨_, AOp.box hx hv, by rintro _ _ ⟨b, e, rfl⟩; injection e with e; subst e; exact hk b, by rintro _ _ ⟨b, e, _⟩; cases e⟩
end
end Go.SX
