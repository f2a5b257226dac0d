/- The library of abstract walks, part 3. -/
import Derived.Test.YtlpndgodkkndnaaDoorS2
import Derived.Test.YtlpndgodkkndnaaDoorS2
import Derived.Lib.AppendZerosOnto
import Derived.Laws.RangeString
import Derived.Lib.AppendStr
import Derived.Lib.UnsafeStr
import Derived.Lib.Builder
import Derived.Laws.Externs
namespace Go.SX
open Go.RowKit
set_option linter.unusedVariables false
set_option linter.unusedSimpArgs false
section
variable {P : Program} {af : AF} {ah : AH} {d : Option Tmp} {T : TypeId} {ps : String} {es : Array Edge} {gd : Option (Nat × Bool)}
def nilS : AV := .val (.slice none 0 0)
theorem AOp.callV {f : FuncId} {y : Operand} {caps : List AV} {xs : Array Operand} {tys : Array TypeId} {args : List AV} {Φ : AEnd → AH → Prop} (hy : aeval af y = some (.fn f caps)) (hx : ∀ (S : Rg) (w : World) (a : Act), AFRel S w af a → RelVs S w args (xs.toList.map a.eval))
    (h : Tri P f (args ++ caps) ah Φ) : AOp P ⟨d, .call ⟨.value y, xs, tys⟩, T, ps, es, gd⟩ af ah Φ := .mk fun Fr a w hst hf => by
  obtain ⟨vs, hv, hc⟩ := (aeval_rel hf hy).fn
  have hr := hx _ _ _ hf
  have hrun : (execOp a.eval ⟨d, .call ⟨.value y, xs, tys⟩, T, ps, es, gd⟩).run P w = .ok (.enter f ((xs.toList.map a.eval ++ vs).toArray)) w := by
    simp only [execOp, resolve, hv, Deferred.ofValue, Sem.run_bind, Sem.run_pure, Result.andThen_ok, invoke]
    rw [run_callFunc h.1]
    congr 2
    apply Array.ext'
    simp
  rw [hrun]
  exact h.2 Fr w _ hst (hr.append hc)
theorem AOp.cap_nil {x : Operand} {t : TypeId} (ht : lenTy P t = some false) (hx : aeval af x = some nilS) : AOp P ⟨d, .call ⟨.builtin .cap, #[x], #[t]⟩, T, ps, es, gd⟩ af ah (D (.int .i64 0) ah) :=
  AOp.of_pure fun S a w hfr _ => by
    have hu := (aeval_rel hfr hx).val
    obtain ⟨e, ht⟩ := lenTy_sl ht
    exact ⟨.int .i64 0, by simp [execOp, resolve, invoke, builtin, hu, Builtin.cap_, goInt, run_underlying ht], mk_int⟩
theorem AOp.len_nil {x : Operand} {t : TypeId} (ht : lenTy P t = some false) (hx : aeval af x = some nilS) : AOp P ⟨d, .call ⟨.builtin .len, #[x], #[t]⟩, T, ps, es, gd⟩ af ah (D (.int .i64 0) ah) :=
  AOp.of_pure fun S a w hfr _ => by
    have hu := (aeval_rel hfr hx).val
    obtain ⟨e, ht⟩ := lenTy_sl ht
    exact ⟨.int .i64 0, by simp [execOp, resolve, invoke, builtin, hu, Builtin.len_, Builtin.lenOf, goInt, run_underlying ht], mk_int⟩
theorem AOp.cut_nil {x : Operand} {lo hi : Option Operand} {t sz : Nat} (ht : esize P t = some sz) (hx : aeval af x = some nilS) (el : bndIs af lo 0 0) (eh : bndIs af hi 0 0) : AOp P ⟨d, .slice t x lo hi none, T, ps, es, gd⟩ af ah (D nilS ah) :=
  AOp.of_pure fun S a w hf _ => by
    have hu := (aeval_rel hf hx).val
    unfold esize at ht
    split at ht
    · rename_i e hut
      cases hi' : P.info? e with
      | none => simp [hi'] at ht
      | some i =>
        have hb := run_bounds (P := P) (c := 0) (sl := true) (w := w) hf el eh (Nat.le_refl _) (Nat.le_refl _)
        refine ⟨.slice none 0 0, by simp [execOp, Instr.sliceAt, run_underlying hut, Instr.slice, hu, hb, sizeOf, typeInfo, hi'], ?_⟩
        exact ⟨by simp [nilS, RelC, Value.cells], by simp [nilS, Shape]⟩
    · cases ht
theorem AOp.cut_osl {x : Operand} {hi : Option Operand} {t sz b n c h : Nat} (ht : esize P t = some sz) (hx : aeval af x = some (.osl b n c)) (eh : bndIs af hi n h) (hh : h ≤ c) : AOp P ⟨d, .slice t x none hi none, T, ps, es, gd⟩ af ah (D (.osl b h c) ah) :=
  AOp.of_pure fun S a w hf _ => by
    obtain ⟨hu, hl1, hl2⟩ := (aeval_rel hf hx).osl
    unfold esize at ht
    split at ht
    · rename_i e hut
      cases hi' : P.info? e with
      | none => simp [hi'] at ht
      | some i =>
        have hb := run_bounds (P := P) (w := w) (c := c) (sl := true) hf (bndIs.none (af := af) (n := 0)) eh (Nat.zero_le _) hh
        refine ⟨.slice (some ⟨b, 0, none⟩) h c, ?_, mk_osl hh hl2⟩
        simp only [Option.map_none] at hb
        simp [execOp, Instr.sliceAt, run_underlying hut, Instr.slice, hu, hb, sizeOf, typeInfo, hi', addr_add]
    · cases ht
theorem appRow {t e bytes : Nat} {c : Value} (h : rowTy P t = some (e, c, bytes)) : appTy P t = some (e, 1, bytes) := by
  obtain ⟨hu, i, z, hi, hz, hzc, hs, hb⟩ := rowTy_parts h
  unfold appTy
  rw [hu]
  simp only [hi, hz, hzc, hs, hb]
  rfl
theorem AOp.append_zeros {x y : Operand} {n : Nat} {t t2 e bytes : Nat} {c : Value} {z : AV} (hx : aeval af x = some nilS) (hy : aeval af y = some (.int .i64 n)) (h0 : 0 < n) (ht : rowTy P t = some (e, c, bytes)) (ht2 : (match P.underlying t2 with | some (.int _) => true | _ => false) = true) (hz : z.flat = some [c]) (hb : n * bytes ≤ 16777216) (hn : n ≤ 16777216) :
    AOp P ⟨d, .call ⟨.builtin .append, #[x, y], #[t, t2]⟩, T, ps, es, gd⟩ af ah (fun r h => ∃ b k, n ≤ k ∧ r = .ret (.osl b n k) ∧ h = .row b (List.replicate k z) :: ah) := .mk fun Fr a w hst hf => by
  have e1 := (aeval_rel hf hx).val
  have e2 := (aeval_rel hf hy).int
  obtain ⟨hu, i, zv, hi, hzv, hzc, hs, hbt⟩ := rowTy_parts ht
  obtain ⟨kn, ht2'⟩ : ∃ kn, P.underlying t2 = some (.int kn) := by
    split at ht2
    · exact ⟨_, by assumption⟩
    · cases ht2
  have hold : (Builtin.firstCells i.size 0 (.slice none 0 0)).run P w.drew = .ok ([] : List Value).toArray w.drew := by simp [Builtin.firstCells]
  have hrun := Lib.run_append_grow_zeros w t t2 T e i zv .i64 kn hu ht2' hi hzv none 0 0 [] hold n h0 (by rw [hs]; omega) (by omega) (by simp; omega) (by rw [hbt]; omega) (by rw [Nat.zero_add]; exact growslice_fits (by omega) (by rw [hbt]; omega))
  rw [Nat.zero_add, hzc] at hrun
  generalize hk : grownCap w n 0 e = k at hrun
  have hk1 : n ≤ k := by rw [← hk]; exact grownCap_ge w n 0 e
  have hk2 : k ≤ maxLen := by rw [← hk]; exact grownCap_le_maxLen w n 0 e (by unfold maxLen; omega)
  have hcs : ([] : List Value).toArray ++ Builtin.zeroCells #[c] n ++ Builtin.zeroCells #[c] (k - n) = Array.replicate k c := by
    apply Array.ext'
    simp only [Array.toList_append, zeroCells_one, List.nil_append, List.replicate_append_replicate, Array.toList_replicate]
    congr 1
    omega
  rw [hcs] at hrun
  have hrun' : (execOp a.eval ⟨d, .call ⟨.builtin .append, #[x, y], #[t, t2]⟩, T, ps, es, gd⟩).run P w = .ok (.value (.slice (some ⟨w.heap.size, 0, none⟩) n k)) (w.drew.alloc (.cells (Array.replicate k c) e)) := by
    simp only [execOp, resolve, invoke, builtin, Sem.run_bind, Sem.run_pure, Result.andThen_ok, List.map_toArray, List.map_cons, List.map_nil, e1, e2, hrun]
  rw [hrun']
  have hext0 : Ext (fun _ _ => False) w (w.drew.alloc (.cells (Array.replicate k c) e)) :=
    ⟨rfl, rfl, rfl, by simp, fun k hk _ => Below.heap_alloc w.drew _ k hk, fun ad v hc _ => (World.cell?_alloc_lt w.drew _ ad (cell_lt hc)).trans hc⟩
  obtain ⟨h1, h2, h3⟩ := hst.cons (x := .row w.heap.size (List.replicate k z)) (b := w.heap.size) rfl (Nat.le_refl _) (by simp) hext0 (fun m => ⟨_, e, heap_alloc_new w.drew _, fun j v hj => by
    obtain ⟨hk1, rfl⟩ : j < k ∧ z = v := by
      rw [List.getElem?_replicate] at hj
      split at hj
      · exact ⟨‹_›, Option.some.inj hj⟩
      · cases hj
    exact ⟨c, by simp [hk1], RelC.flat z _ hz⟩⟩)
  exact ⟨_, _, ⟨_, _, hk1, rfl, rfl⟩, ⟨_, rfl, mk_osl hk1 hk2⟩, h1, h2, h3⟩
theorem AOp.append_osl {x y : Operand} {b n c i : Nat} {xs ys : List AV} {v : AV} {t t2 e bytes : Nat} {c0 : Value} (hx : aeval af x = some (.osl b n c)) (hi : ah[i]? = some (.row b xs)) (hc : c ≤ xs.length) (hy : aeval af y = some v) (hs : srcOf v = some ys)
    (ht : rowTy P t = some (e, c0, bytes)) (ht2 : isSlTy P t2 = true) (hys : ∀ y ∈ ys, y.size = 1) (hok : AV.cellsOK ys = true) (hroom : n + ys.length ≤ c) :
    AOp P ⟨d, .call ⟨.builtin .append, #[x, y], #[t, t2]⟩, T, ps, es, gd⟩ af ah (D (.osl b (n + ys.length) c) (ah.set i (.row b (xs.take n ++ ys ++ xs.drop (n + ys.length))))) := .mk fun Fr a w hst hf => by
  obtain ⟨hu, hl1, hl2⟩ := (aeval_rel hf hx).osl
  obtain ⟨A2, c2, hu2, hl2', hm2, hrow2⟩ := srcOf_rel (aeval_rel hf hy) hs
  obtain ⟨ds, d1, d2, d3⟩ := run_first (P := P) (w' := w) (c := c2) hrow2 hys rfl
  rw [Nat.mul_one] at d3
  obtain ⟨w', r1, k1, k2, k3⟩ := hst.laid (P := P) (ys := ys) (ds := ds) (o := n) hi (by omega) d3 (RelCs.cellOK _ ds d2 hok) (fun j y hj => RelCs.get1 d2 hys j y hj)
  have hrun := run_append_room (ty := T) (base := some ⟨b, 0, none⟩) (n := n) (cap := c) (appRow ht) ht2 d1 hroom
  simp only [Nat.mul_one, addr_add, Nat.zero_add, r1, Result.andThen_ok] at hrun
  have hrun' : (execOp a.eval ⟨d, .call ⟨.builtin .append, #[x, y], #[t, t2]⟩, T, ps, es, gd⟩).run P w = .ok (.value (.slice (some ⟨b, 0, none⟩) (n + ys.length) c)) w' := by
    simp only [execOp, resolve, invoke, builtin, Sem.run_bind, Sem.run_pure, Result.andThen_ok, List.map_toArray, List.map_cons, List.map_nil, hu, hu2, hrun]
  rw [hrun']
  exact ⟨_, _, ⟨rfl, rfl⟩, ⟨_, rfl, mk_osl hroom hl2⟩, k1, k2, k3⟩
end
section
variable {C : Cx} {ds : List Deferred} {ks : List K} {af : AF} {ah : AH} {ops : Array Oper} {rest : List Oper}
theorem Good.freeze_pre {a : Act} {w : World} (g : Good C ds af ah a w) {i d b n c : Nat} {xs : List AV} (hi : ah[i]? = some (.row b xs)) (hd : get af d = some (.osl b n c)) (hn : n ≤ xs.length) (hs : ∀ x ∈ xs, x.size = 1) : Good C ds ((d, .sl (xs.take n)) :: af) (ah.eraseIdx i) a w := by
  have g' := g.sub (List.eraseIdx_sublist ah i)
  obtain ⟨cs, t, hh, hr⟩ := g.st.rel _ (List.mem_of_getElem? hi)
  have hbm := List.mem_of_getElem? hi
  have hsof : ∀ b o, Sof C.Fr (ah.eraseIdx i) b o → Sof C.Fr ah b o := fun b o hs => hs.elim .inl fun hr => .inr (reg_sub (List.eraseIdx_sublist ah i) hr)
  refine { g' with fr := fun j v hj => ?_ }
  rw [get_cons] at hj
  by_cases e : d = j
  · subst e
    rw [if_pos rfl] at hj
    obtain rfl := Option.some.inj hj
    obtain ⟨hu, hl1, hl2⟩ := (g.fr d _ hd).osl
    rw [hu]
    refine ⟨?_, by simp [Shape]⟩
    show RelC _ _ (.sl (xs.take n)) [_]
    simp only [RelC]
    have hln : (xs.take n).length = n := by simp; omega
    refine ⟨_, c, by rw [hln], by rw [hln]; exact hl1, hl2, fun _ => ⟨b, 0, 1, rfl, ?_⟩⟩
    have hno : ∀ o, ¬ Sof C.Fr (ah.eraseIdx i) b o := by
      rintro o (hF | ⟨y, hy, hy'⟩)
      · exact g.st.fr _ hbm b rfl _ hF
      · have hyb := reg_blk hy'
        obtain ⟨e1, _⟩ := mem_split hi
        have hn := g.st.nodup
        rw [e1, List.filterMap_append, List.nodup_append, List.filterMap_cons] at hn
        simp only [Own.blk] at hn
        rw [List.eraseIdx_eq_take_drop_succ] at hy
        rcases List.mem_append.1 hy with hy | hy
        · exact hn.2.2 b (List.mem_filterMap.2 ⟨y, hy, hyb⟩) b (by simp) rfl
        · exact (List.nodup_cons.1 hn.2.1).1 (List.mem_filterMap.2 ⟨y, hy, hyb⟩)
    have key : ∀ (l : List AV) (o : Nat), (∀ (k : Nat) x, l[k]? = some x → ∃ v, cs[o + k]? = some v ∧ RelC (Sof C.Fr ah) w x [v]) → RelRow (Sof C.Fr (ah.eraseIdx i)) w l 1 b o := by
      intro l
      induction l with
      | nil => intro o _; simp [RelRow]
      | cons x l ih =>
        intro o h
        simp only [RelRow]
        obtain ⟨v, hv, hrv⟩ := h 0 x rfl
        refine ⟨⟨[v], rfl, RelC.mv (Mv.same w hsof) _ _ hrv, fun j u hj => ⟨hno _, ?_⟩⟩, ih (o + 1) fun k y hk => ?_⟩
        · cases j with
          | zero => simp only [List.getElem?_cons_zero, Option.some.injEq] at hj; subst hj; rw [cell_of_row w b _ cs t (0, 0) hh]; exact hv
          | succ j => simp at hj
        · obtain ⟨v, hv, hrv⟩ := h (k + 1) y (by simpa using hk)
          exact ⟨v, by rw [show o + 1 + k = o + (k + 1) by omega]; exact hv, hrv⟩
    refine key (xs.take n) 0 fun k x hk => ?_
    rw [Nat.zero_add]
    refine hr k x ?_
    have hlt := (List.getElem?_eq_some_iff.1 hk).1
    rw [List.getElem?_take, if_pos (by simp at hlt; omega)] at hk
    exact hk
  · rw [if_neg e] at hj
    exact g'.fr j v hj
theorem AW.freeze_pre (i d : Nat) {b n c : Nat} {xs : List AV} (hi : ah[i]? = some (.row b xs)) (hd : get af d = some (.osl b n c)) (hn : n ≤ xs.length) (hs : ∀ x ∈ xs, x.size = 1) (k : AW C ds ks ((d, .sl (xs.take n)) :: af) (ah.eraseIdx i)) : AW C ds ks af ah := .mk fun a w g => k.out a w (g.freeze_pre hi hd hn hs)
theorem AL.append_zeros {dd : Nat} {x y : Operand} {n : Nat} {t t2 e bytes : Nat} {c : Value} {z : AV} {T : TypeId} {ps : String} {es : Array Edge} (hx : aeval af x = some nilS) (hy : aeval af y = some (.int .i64 n)) (h0 : 0 < n) (ht : rowTy C.P t = some (e, c, bytes)) (ht2 : (match C.P.underlying t2 with | some (.int _) => true | _ => false) = true) (hz : z.flat = some [c]) (hb : n * bytes ≤ 16777216) (hn : n ≤ 16777216) (hd : Nat.blt dd C.n = true)
    (hk : ∀ b k, n ≤ k → AL C ds ks ops rest ((dd, .osl b n k) :: af) (.row b (List.replicate k z) :: ah)) : AL C ds ks ops (⟨some dd, .call ⟨.builtin .append, #[x, y], #[t, t2]⟩, T, ps, es, none⟩ :: rest) af ah :=
  AL.step rfl hd (AOp.append_zeros hx hy h0 ht ht2 hz hb hn) (by rintro _ _ ⟨b, k, h, e, rfl⟩; injection e with e; subst e; exact hk b k h) (by rintro _ _ ⟨b, k, h, e, _⟩; cases e)
end
end Go.SX
namespace Go.SX
open Go.RowKit
set_option linter.unusedVariables false
set_option linter.unusedSimpArgs false
def Agree : Nat → List Nat → List AV → List AV → Prop
  | k, rem, v :: vs, u :: us => (memN k rem = true ∨ v = u) ∧ Agree (k + 1) rem vs us
  | _, _, [], [] => True
  | _, _, _, _ => False
theorem Agree.spec : ∀ {vs us : List AV} {k : Nat} {rem : List Nat}, Agree k rem vs us → vs.length = us.length ∧ ∀ y, (k + y) ∉ rem → vs.getD y .any = us.getD y .any
  | [], [], k, rem, _ => ⟨rfl, fun _ _ => rfl⟩
  | v :: vs, u :: us, k, rem, h => by
    obtain ⟨h1, h2⟩ := h
    obtain ⟨g1, g2⟩ := Agree.spec h2
    refine ⟨by simp [g1], fun y hy => ?_⟩
    cases y with
    | zero =>
      rcases h1 with h1 | h1
      · exact absurd (memN_iff.1 h1) (by simpa using hy)
      · simp [h1]
    | succ y => simpa using g2 y (by rw [show k + 1 + y = k + (y + 1) by omega]; exact hy)
  | [], u :: us, _, _, h => h.elim
  | v :: vs, [], _, _, h => h.elim
def RestOK (P : Program) (ops : Array Oper) (af : AF) (ae : AH) (us : List AV) : List Nat → Prop
  | [] => True
  | i :: l => (∃ o, ops[i]? = some o ∧ o.guard = none ∧ AOp P o (keep (oslots ops o) (frameOf ops us af (down i))) ae (D (us.getD i .any) ae)) ∧ RestOK P ops af ae us l
theorem RestOK.mem {P : Program} {ops : Array Oper} {af : AF} {ae : AH} {us : List AV} : ∀ {l : List Nat}, RestOK P ops af ae us l → ∀ i ∈ l, ∃ o, ops[i]? = some o ∧ o.guard = none ∧ AOp P o (keep (oslots ops o) (frameOf ops us af (down i))) ae (D (us.getD i .any) ae)
  | [], _, i, h => by cases h
  | j :: l, h, i, hi => by
    rcases List.mem_cons.1 hi with rfl | hi
    · exact h.1
    · exact RestOK.mem h.2 i hi
section
variable {C : Cx} {ds : List Deferred} {ks : List K} {ops : Array Oper} {af : AF} {aq : AH}
theorem AX.rest_core {ae : AH} {us : List AV} (hd : drawOK ops = true) (hk : AW C ds ks (frameOf ops us af (down ops.size)) (ae ++ aq)) : ∀ (n : Nat) (rem : List Nat) (vs : List AV), rem.length = n → rem.Nodup → (∀ i ∈ rem, i < ops.size ∧ i < vs.length) →
    (∀ y, y ∉ rem → vs.getD y .any = us.getD y .any) → (∀ i ∈ rem, ∃ o, ops[i]? = some o ∧ o.guard = none ∧ AOp C.P o (keep (oslots ops o) (frameOf ops us af (down i))) ae (D (us.getD i .any) ae)) → AX C ds ks ops af aq n rem vs ae := by
  intro n
  induction n with
  | zero =>
    intro rem vs hl hn hlt hag hq
    obtain rfl := List.length_eq_zero_iff.1 hl
    refine AW.weaken hk fun s v hs => ?_
    rw [get_frameOf] at hs ⊢
    cases hw : wr ops s (down ops.size) with
    | none => rw [hw] at hs; exact hs
    | some x => rw [hw] at hs; simp only at hs ⊢; rw [hag x (by simp)]; exact hs
  | succ n ih =>
    intro rem vs hl hn hlt hag hq i hi hready
    obtain ⟨o, ho, hg, hop⟩ := hq i hi
    have hkeep : keep (oslots ops o) (frameOf ops vs af (down i)) = keep (oslots ops o) (frameOf ops us af (down i)) := by
      refine keep_congr fun s hs => ?_
      rw [get_frameOf, get_frameOf]
      cases hw : wr ops s (down i) with
      | none => rfl
      | some y =>
        simp only
        obtain ⟨l1, l2, e, hy, _⟩ := wr_some hw
        have hyi : y < i := mem_down.1 (by rw [e]; simp)
        have hcl := drawOK_clash hd hyi (hlt i hi).1 (clash_comm (clash_slot ho hs hy))
        have hyr : y ∉ rem := fun hm => by rw [hready y hm] at hcl; cases hcl
        rw [hag y hyr]
    refine ⟨o, ho, .inr ⟨by simp [gdo, hg], D (us.getD i .any) ae, hkeep ▸ hop, ?_, ?_⟩⟩
    · rintro v h ⟨e, rfl⟩
      injection e with e
      subst e
      refine ih (rem.erase i) _ (by rw [List.length_erase_of_mem hi, hl]; rfl) (hn.erase i) (fun j hj => ?_) (fun y hy => ?_) (fun j hj => hq j (List.mem_of_mem_erase hj))
      · have := hlt j (List.mem_of_mem_erase hj); simpa using this
      · by_cases e : i = y
        · subst e
          rw [List.getD_eq_getElem?_getD, List.getElem?_set_self (hlt i hi).2]; rfl
        · rw [getD_set_ne e]
          exact hag y fun hm => hy ((hn.mem_erase_iff).2 ⟨fun h => e h.symm, hm⟩)
    · rintro v h ⟨e, _⟩; cases e
theorem AX.rest {ae : AH} {n : Nat} {rem : List Nat} {vs : List AV} (us : List AV) (af' : AF) (hd : drawOK ops = true) (hr : okE rem ops.size = true) (hn : Nat.beq rem.length n = true) (hvl : Nat.beq us.length ops.size = true) (hag : Agree 0 rem vs us) (hq : RestOK C.P ops af ae us rem)
    (he : keep (af'.map (·.1)) (frameOf ops us af (down ops.size)) = af') (k : AW C ds ks af' (ae ++ aq)) : AX C ds ks ops af aq n rem vs ae := by
  obtain ⟨g1, g2⟩ := hag.spec
  obtain ⟨h1, h2⟩ := okE_iff hr
  refine AX.rest_core hd (AW.weaken k fun i v hi => get_keep (he ▸ hi)) n rem vs (by simpa using hn) h1 (fun i hi => ⟨h2 i hi, ?_⟩) (fun y hy => g2 y (by simpa using hy)) hq.mem
  have := h2 i hi
  have hv : us.length = ops.size := by simpa using hvl
  omega
end
end Go.SX
namespace Go.SX
open Go.RowKit
set_option linter.unusedVariables false
section
variable {C : Cx} {ds : List Deferred} {ks : List K} {af : AF} {aq ae : AH} {ops : Array Oper} {n : Nat} {rem : List Nat} {vs : List AV} {q : Nat}
structure AXO (C : Cx) (ds : List Deferred) (ks : List K) (ops : Array Oper) (af : AF) (aq : AH) (n : Nat) (rem : List Nat) (vs : List AV) (ae : AH) (q : Nat) (o : Oper) (f : AF) : Prop where
  out : ∃ Φ : AEnd → AH → Prop, AOp C.P o f ae Φ ∧ (∀ v h, Φ (.ret v) h → AX C ds ks ops af aq n (rem.erase q) (vs.set q v) h) ∧ (∀ v h, Φ (.pan v) h → APan C ds v (h ++ aq))
theorem AXS.at {o : Oper} {f : AF} (ho : ops[q]? = some o) (hkp : keep (oslots ops o) (frameOf ops vs af (down q)) = f) (h : AXO C ds ks ops af aq n rem vs ae q o f) (hg : o.guard = none := by exact rfl) : AXS C ds ks ops af aq n rem vs ae q := by
  obtain ⟨Φ, h1, h2, h3⟩ := h.out
  exact AXS.step ho hg hkp h1 h2 h3
theorem AX.o (q : Nat) {o : Oper} {f : AF} (h : AXO C ds ks ops af aq n rem vs ae q o f) (ho : ops[q]? = some o := by exact rfl) (hkp : keep (oslots ops o) (frameOf ops vs af (down q)) = f := by exact rfl) (hg : o.guard = none := by exact rfl) (hr : readyL ops rem = [q] := by kernel_rfl) : AX C ds ks ops af aq (n + 1) rem vs ae := AX.one q hr (AXS.at ho hkp h hg)
theorem AX.at (q : Nat) (hr : readyL ops rem = [q]) {o : Oper} {f : AF} (ho : ops[q]? = some o) (hkp : keep (oslots ops o) (frameOf ops vs af (down q)) = f) (hg : o.guard = none) (h : AXO C ds ks ops af aq n rem vs ae q o f) : AX C ds ks ops af aq (n + 1) rem vs ae := AX.one q hr (AXS.at ho hkp h hg)
theorem AX.done_keep (is : List Nat) (k : AW C ds ks (keep is (frameOf ops vs af (down ops.size))) (ae ++ aq)) : AX C ds ks ops af aq 0 rem vs ae := AW.weaken k fun i v hi => get_keep hi
variable {o : Oper} {f : AF}
theorem AXO.d {v : AV} {ae' : AH} (h : AOp C.P o f ae (D v ae')) (hk : AX C ds ks ops af aq n (rem.erase q) (vs.set q v) ae') : AXO C ds ks ops af aq n rem vs ae q o f :=
  ⟨_, h, by rintro v' h' ⟨e, rfl⟩; injection e with e; subst e; exact hk, by rintro v' h' ⟨e, _⟩; cases e⟩
theorem AXO.e {v : AV} (hk : AX C ds ks ops af aq n (rem.erase q) (vs.set q v) ae) (h : evalOp f o.op = some v := by exact rfl) : AXO C ds ks ops af aq n rem vs ae q o f := .d (AOp.ev h) hk
theorem AXO.append {x y : Operand} {xs ys : List AV} {tb : Option Nat} {tc i e sz bytes dd : Nat} {v : AV} {t t2 T : TypeId} {ps : String} {es : Array Edge} (hx : aeval f x = some (.slt xs tb tc)) (hi : ae[i]? = some (.tail tb xs.length tc sz)) (hy : aeval f y = some v) (hs : srcOf v = some ys)
    (ht : appTy C.P t = some (e, sz, bytes)) (ht2 : isSlTy C.P t2 = true) (hxs : ∀ x ∈ xs, x.size = sz) (hys : ∀ y ∈ ys, y.size = sz) (hok : AV.cellsOK ys = true) (hb : (xs.length + ys.length) * bytes ≤ 140737488355328) (h63 : xs.length + ys.length ≤ 9223372036854775807) (hn : Nat.blt dd C.n = true)
    (hk : ∀ b' c', AX C ds ks ops af aq n (rem.erase q) (vs.set q (.slt (xs ++ ys) b' c')) (ae.set i (.tail b' (xs ++ ys).length c' sz))) : AXO C ds ks ops af aq n rem vs ae q ⟨some dd, .call ⟨.builtin .append, #[x, y], #[t, t2]⟩, T, ps, es, none⟩ f :=
  ⟨_, AOp.append hx hi hy hs ht ht2 hxs hys hok hb h63, by rintro _ _ ⟨b', c', e, rfl⟩; injection e with e; subst e; exact hk b' c', by rintro _ _ ⟨b', c', e, _⟩; cases e⟩
theorem AXO.lit_own {t T e sz k dd : Nat} {parts : Array (Nat × Operand)} {xs : List Operand} {us : List AV} {ps : String} {es : Array Edge} (ht : litTy C.P t = some (e, sz)) (hp : litOps 0 parts.toList = some xs) (hx : aevals f xs = some us) (hn : us.length = k) (hsz : ∀ v ∈ us, v.size = sz) (hb : k * sz ≤ 16777216)
    (hk : ∀ b, AX C ds ks ops af aq n (rem.erase q) (vs.set q (.slt us (some b) k)) (.tail (some b) k k sz :: ae)) : AXO C ds ks ops af aq n rem vs ae q ⟨some dd, .buildSlice t k parts, T, ps, es, none⟩ f :=
  ⟨_, AOp.lit_own ht hp hx hn hsz hb, by rintro _ _ ⟨b, e, rfl⟩; injection e with e; subst e; exact hk b, by rintro _ _ ⟨b, e, _⟩; cases e⟩
theorem AXO.makeSlice {x y : Operand} {k dd : Nat} {t e bytes T : TypeId} {c : Value} {z : AV} {ps : String} {es : Array Edge} (hx : aeval f x = some (.int .i64 k)) (hy : aeval f y = some (.int .i64 k)) (ht : rowTy C.P t = some (e, c, bytes)) (hz : z.flat = some [c]) (hb : k * bytes ≤ 16777216) (hn : k ≤ 16777216)
    (hk : ∀ b, AX C ds ks ops af aq n (rem.erase q) (vs.set q (.osl b k k)) (.row b (List.replicate k z) :: ae)) : AXO C ds ks ops af aq n rem vs ae q ⟨some dd, .makeSlice t x y, T, ps, es, none⟩ f :=
  ⟨_, AOp.makeSlice hx hy ht hz hb hn, by rintro _ _ ⟨b, e, rfl⟩; injection e with e; subst e; exact hk b, by rintro _ _ ⟨b, e, _⟩; cases e⟩
theorem AXO.callQ {d : Option Tmp} {T : TypeId} {ps : String} {es : Array Edge} {fid : FuncId} {y : Operand} {caps : List AV} {xs : Array Operand} {tys : Array TypeId} {args : List AV} {Φ : AEnd → AH → Prop} (hy : aeval f y = some (.fn fid caps)) (hx : aevals f xs.toList = some args)
    (h : Tri C.P fid (args ++ caps) ae Φ) (hd : okDst d C.n = true) (hk : ∀ v ae', Φ (.ret v) ae' → AX C ds ks ops af aq n (rem.erase q) (vs.set q v) ae') (hp : ∀ v ae', Φ (.pan v) ae' → APan C ds v (ae' ++ aq)) :
    AXO C ds ks ops af aq n rem vs ae q ⟨d, .call ⟨.value y, xs, tys⟩, T, ps, es, none⟩ f := ⟨_, AOp.call hy hx h, hk, hp⟩
theorem AXO.store_leaf (i : Nat) {x y : Operand} {b off : Nat} {c c' v : AV} {t T : TypeId} {ps : String} {es : Array Edge} (hx : aeval f x = some (.ref b off)) (hy : aeval f y = some v) (hi : ae[i]? = some (.box b c)) (hs : c.upd off v = some c') (hok : v.cellOK = true)
    (ht : tkind C.P t = some (v.isSt, v.size)) (hk : ∀ u, AX C ds ks ops af aq n (rem.erase q) (vs.set q u) (ae.set i (.box b c'))) : AXO C ds ks ops af aq n rem vs ae q ⟨none, .store t x y, T, ps, es, none⟩ f :=
  ⟨_, AOp.store_box hx hy hi hs hok ht, by rintro v h ⟨_, rfl⟩; exact hk v, by rintro _ _ ⟨⟨_, e⟩, _⟩; cases e⟩
theorem AXO.sl (i : Nat) {x y : Operand} {b off : Nat} {c c' v : AV} {t T : TypeId} {ps : String} {es : Array Edge} (hk : ∀ u, AX C ds ks ops af aq n (rem.erase q) (vs.set q u) (ae.set i (.box b c'))) (hx : aeval f x = some (.ref b off) := by exact rfl) (hy : aeval f y = some v := by exact rfl) (hi : ae[i]? = some (.box b c) := by exact rfl) (hs : c.upd off v = some c' := by exact rfl) (hok : v.cellOK = true := by exact rfl)
    (ht : tkind C.P t = some (v.isSt, v.size) := by kernel_rfl) : AXO C ds ks ops af aq n rem vs ae q ⟨none, .store t x y, T, ps, es, none⟩ f := .store_leaf i hx hy hi hs hok ht hk
theorem AXO.store_cell (i : Nat) {x y : Operand} {b off : Nat} {xs : List AV} {v : AV} {t T : TypeId} {ps : String} {es : Array Edge} (hx : aeval f x = some (.ref b off)) (hy : aeval f y = some v) (hi : ae[i]? = some (.row b xs)) (hs : off < xs.length) (hok : v.cellOK = true) (hz : v.size = 1)
    (ht : tkind C.P t = some (v.isSt, v.size)) (hk : ∀ u, AX C ds ks ops af aq n (rem.erase q) (vs.set q u) (ae.set i (.row b (xs.set off v)))) : AXO C ds ks ops af aq n rem vs ae q ⟨none, .store t x y, T, ps, es, none⟩ f :=
  ⟨_, AOp.store_row hx hy hi hs hok hz ht, by rintro v h ⟨_, rfl⟩; exact hk v, by rintro _ _ ⟨⟨_, e⟩, _⟩; cases e⟩
end
section
variable {C : Cx} {ds : List Deferred} {ks : List K} {af : AF} {ah : AH}
theorem AW.ex {ops : Array Oper} {ks0 : List K} (id : Nat) (m : List Bool) (E : List Nat) (h : AQE C.P ops (uns m ah) (sel m ah ++ uns m ah) E 0 ops.toList af (fun vs => AX C ds ks ops af (uns m ah) E.length E vs (sel m ah))) (hc : ctlN 99 af ks0 = .c (.region id ops true) :: ks := by exact rfl) (hm : C.P.follows .mixedOrders = true := by exact rfl) (hd : drawOK ops = true := by kernel_rfl) (hn : ops.toList.all (fun o => okDst o.dst C.n) = true := by kernel_rfl) (hqo : quietOK ops E = true := by kernel_rfl) (hE : okE E ops.size = true := by kernel_rfl) : AW C ds ks0 af ah := AW.ctl 99 ks0 (by rw [hc]; exact AW.explore m E hm hd hn hqo hE h)
end
section
variable {P : Program} {ops : Array Oper} {aq aa : AH} {E : List Nat} {n : Nat} {af af' : AF} {K : List AV → Prop} {rest : List Oper} {o : Oper}
theorem AQE.p {v : AV} {d : Nat} (hkp : keep (oslots ops o) af = af') (h : AOp P o af' aq (D v aq)) (k : AQE P ops aq aa E (n + 1) rest ((d, v) :: af) (fun us => K (v :: us))) (hg : o.guard = none := by exact rfl) (hd : o.dst = some d := by exact rfl) : AQE P ops aq aa E n (o :: rest) af K := AQE.op hkp h hg hd k
theorem AQE.pe {v : AV} {d : Nat} (hkp : keep (oslots ops o) af = af') (h : AOp P o af' aa (D v aa)) (k : AQE P ops aq aa E (n + 1) rest ((d, v) :: af) (fun us => K (v :: us))) (hg : o.guard = none := by exact rfl) (hd : o.dst = some d := by exact rfl) (he : earlyB ops E n = true := by kernel_rfl) : AQE P ops aq aa E n (o :: rest) af K := AQE.early he hkp h hg hd k
theorem AQE.e {v : AV} {d : Nat} (k : AQE P ops aq aa E (n + 1) rest ((d, v) :: af) (fun us => K (v :: us))) (hkp : keep (oslots ops o) af = af' := by exact rfl) (h : evalOp af' o.op = some v := by exact rfl) (hg : o.guard = none := by exact rfl) (hd : o.dst = some d := by exact rfl) : AQE P ops aq aa E n (o :: rest) af K := AQE.ev hkp h hg hd k
theorem AQE.gp {v : AV} {d : Nat} (hkp : keep (oslots ops o) af = af') (h : AOp P o af' aq (D v aq)) (k : AQE P ops aq aa E (n + 1) rest ((d, v) :: af) (fun us => K (v :: us))) (hg : gdo ops af' o = some true := by exact rfl) (hd : o.dst = some d := by exact rfl) : AQE P ops aq aa E n (o :: rest) af K := AQE.gop hkp h hg hd k
theorem AQE.gpe {v : AV} {d : Nat} (hkp : keep (oslots ops o) af = af') (h : AOp P o af' aa (D v aa)) (k : AQE P ops aq aa E (n + 1) rest ((d, v) :: af) (fun us => K (v :: us))) (hg : gdo ops af' o = some true := by exact rfl) (hd : o.dst = some d := by exact rfl) (he : earlyB ops E n = true := by kernel_rfl) : AQE P ops aq aa E n (o :: rest) af K :=
  AQE.cons (.inr (.inr ⟨he, .inl ⟨hkp ▸ hg, hkp ▸ h⟩⟩)) (by rw [hd]; exact k)
theorem AQE.ge {v : AV} {d : Nat} (k : AQE P ops aq aa E (n + 1) rest ((d, v) :: af) (fun us => K (v :: us))) (hkp : keep (oslots ops o) af = af' := by exact rfl) (h : evalOp af' o.op = some v := by exact rfl) (hg : gdo ops af' o = some true := by exact rfl) (hd : o.dst = some d := by exact rfl) : AQE P ops aq aa E n (o :: rest) af K := AQE.gop hkp (AOp.ev h) hg hd k
theorem AQE.k {d : Nat} (k : AQE P ops aq aa E (n + 1) rest ((d, .tup []) :: af) (fun us => K (.tup [] :: us))) (hkp : keep (oslots ops o) af = af' := by exact rfl) (hg : gdo ops af' o = some false := by exact rfl) (hd : o.dst = some d := by exact rfl) : AQE P ops aq aa E n (o :: rest) af K := AQE.skip hkp hg hd k
theorem AQE.hl (k : AQE P ops aq aa E (n + 1) rest af' (fun us => K (.any :: us))) (he : memN n E = true := by exact rfl) (hp : put af o.dst .any = af' := by exact rfl) : AQE P ops aq aa E n (o :: rest) af K := AQE.hole he hp k
end
section
variable {P : Program} {af : AF} {ah : AH} {d : Option Tmp} {T : TypeId} {ps : String} {es : Array Edge} {gd : Option (Nat × Bool)}
theorem AOp.makeSlice_ro {x y : Operand} {n : Nat} {t e bytes : Nat} {c : Value} {z : AV} (hx : aeval af x = some (.int .i64 n)) (hy : aeval af y = some (.int .i64 n)) (ht : rowTy P t = some (e, c, bytes)) (hz : z.flat = some [c]) (hzs : z.size = 1) (hb : n * bytes ≤ 16777216) (hn : n ≤ 16777216) :
    AOp P ⟨d, .makeSlice t x y, T, ps, es, gd⟩ af ah (D (.sl (List.replicate n z)) ah) := .mk fun Fr a w hst hf => by
  have h := (AOp.makeSlice (d := d) (T := T) (ps := ps) (es := es) (gd := gd) hx hy ht hz hb hn).out Fr a w hst hf
  refine Out.mono (fun e w' he => ?_) h
  obtain ⟨v, ah', ⟨b, rfl, rfl⟩, ⟨u, rfl, hu⟩, hst', hx', hn'⟩ := he
  obtain ⟨hue, hl1, hl2⟩ := hu.osl
  have hb : OwnRel (Sof Fr (.row b (List.replicate n z) :: ah)) w' (.row b (List.replicate n z)) := hst'.rel (.row b (List.replicate n z)) List.mem_cons_self
  have hsub : St Fr ah w' := hst'.sub (List.sublist_cons_self _ _)
  have hsof : ∀ b' o, Sof Fr ah b' o → Sof Fr (.row b (List.replicate n z) :: ah) b' o := fun b' o h => h.imp id fun ⟨y, hy, hr⟩ => ⟨y, List.mem_cons_of_mem _ hy, hr⟩
  have hno : ∀ o, ¬ Sof Fr ah b o := by
    rintro o (hF | ⟨y, hy, hr⟩)
    · exact hst'.fr (.row b (List.replicate n z)) List.mem_cons_self b rfl o hF
    · have hnd := hst'.nodup
      rw [List.filterMap_cons] at hnd
      have hnd' : (b :: ah.filterMap Own.blk).Nodup := hnd
      exact (List.nodup_cons.1 hnd').1 (List.mem_filterMap.2 ⟨y, hy, reg_blk hr⟩)
  refine ⟨_, _, ⟨rfl, rfl⟩, ⟨u, rfl, ?_, ?_⟩, hsub, hx', fun b' o hb' hr => hr⟩
  · rw [hue]
    show RelC _ _ (.sl (List.replicate n z)) [_]
    simp only [RelC]
    obtain ⟨cs, t', hh, hr⟩ := hb
    refine ⟨_, n, by rw [List.length_replicate], by rw [List.length_replicate]; exact Nat.le_refl _, hl2, fun _ => ⟨b, 0, 1, rfl, ?_⟩⟩
    have key : ∀ (l : List AV) (o : Nat), (∀ (k : Nat) x, l[k]? = some x → ∃ v, cs[o + k]? = some v ∧ RelC (Sof Fr (.row b (List.replicate n z) :: ah)) w' x [v]) → RelRow (Sof Fr ah) w' l 1 b o := by
      intro l
      induction l with
      | nil => intro o _; simp [RelRow]
      | cons x l ih =>
        intro o h
        simp only [RelRow]
        obtain ⟨v, hv, hrv⟩ := h 0 x rfl
        refine ⟨⟨[v], rfl, RelC.mv (Mv.same w' hsof) _ _ hrv, fun j u hj => ?_⟩, ih (o + 1) fun k y hk => ?_⟩
        · cases j with
          | zero => simp only [List.getElem?_cons_zero, Option.some.injEq] at hj; subst hj; exact ⟨hno _, by rw [cell_of_row w' b _ cs t' (0, 0) hh]; exact hv⟩
          | succ j => simp at hj
        · obtain ⟨v, hv, hrv⟩ := h (k + 1) y (by simpa using hk)
          exact ⟨v, by rw [show o + 1 + k = o + (k + 1) by omega]; exact hv, hrv⟩
    exact key _ 0 fun k x hk => by rw [Nat.zero_add]; exact hr k x hk
  · rw [hue]; simp [Shape]
end
section
variable {C : Cx} {ds : List Deferred} {ks : List K} {af : AF} {ah : AH}
theorem AW.recast (i : Nat) {b : Nat} {c c' : AV} (hi : ah[i]? = some (.box b c)) (hc : ∀ S w cs, RelC S w c cs → RelC S w c' cs) (k : AW C ds ks af (ah.set i (.box b c'))) : AW C ds ks af ah := .mk fun a w g => by
  have hs := g.st.update (w' := w) (x' := .box b c') hi (Ext.refl _ _) (fun b' h => .inl h) (fun b' o _ h => h) (fun b' h => g.st.lt _ (List.mem_of_getElem? hi) b' h) (fun m => by
    obtain ⟨cs, t, h1, h2⟩ := g.st.rel _ (List.mem_of_getElem? hi)
    exact ⟨cs, t, h1, hc _ _ _ (RelC.mv m _ _ h2)⟩)
  have hreg : ∀ b' o, reg (ah.set i (.box b c')) b' o → reg ah b' o := by
    rintro b' o ⟨y, hy, hr⟩
    rcases List.mem_or_eq_of_mem_set hy with hy | rfl
    · exact ⟨y, hy, hr⟩
    · exact ⟨_, List.mem_of_getElem? hi, hr⟩
  exact k.out a w ⟨g.size, g.defers, hs.1, g.ext, fun b' o hb h => g.old b' o hb (hreg b' o h), AFRel.mv (Mv.same w fun b' o h => h.imp id (hreg b' o)) g.fr⟩
theorem nil_slt (S : Rg) (w : World) (cs : List Value) (h : RelC S w nilS cs) : RelC S w (.slt [] none 0) cs := by
  simp only [nilS, RelC, Value.cells] at h
  simp only [RelC]
  exact ⟨by simpa using h, by simp, by simp [maxLen], by simp⟩
theorem slt_sl {xs : List AV} {b : Option Nat} {n : Nat} (S : Rg) (w : World) (cs : List Value) (h : RelC S w (.slt xs b n) cs) : RelC S w (.sl xs) cs := by
  simp only [RelC] at h ⊢
  obtain ⟨h1, h2, h3, h4⟩ := h
  exact ⟨_, n, h1, h2, h3, fun hne => by obtain ⟨b', sz, rfl, hr⟩ := h4 hne; exact ⟨b', 0, sz, rfl, hr⟩⟩
theorem rel_last {S : Rg} {w : World} {x y z : AV} {cs : List Value} (h : RelC S w (.st [x, y]) cs) (k : ∀ cs, RelC S w y cs → RelC S w z cs) : RelC S w (.st [x, z]) cs := by
  simp only [RelC] at h ⊢
  rw [RelCs] at h ⊢
  obtain ⟨c1, c2, e1, h1, h2⟩ := h
  rw [RelCs] at h2
  obtain ⟨c3, c4, e2, h3, h4⟩ := h2
  exact ⟨c1, c2, e1, h1, by rw [RelCs]; exact ⟨c3, c4, e2, k _ h3, h4⟩⟩
end
section
variable {P : AV → Prop} {a b : List AV} {y : AV} {n : Nat}
theorem P_nil : ∀ x ∈ ([] : List AV), P x := fun x h => by cases h
theorem P_app (h : ∀ x ∈ a, P x) (k : ∀ x ∈ b, P x) : ∀ x ∈ a ++ b, P x := fun x hx => (List.mem_append.1 hx).elim (h x) (k x)
theorem P_take (h : ∀ x ∈ a, P x) : ∀ x ∈ a.take n, P x := fun x hx => h x (List.mem_of_mem_take hx)
theorem P_drop (h : ∀ x ∈ a, P x) : ∀ x ∈ a.drop n, P x := fun x hx => h x (List.mem_of_mem_drop hx)
theorem P_one (h : P y) : ∀ x ∈ [y], P x := fun x hx => List.mem_singleton.1 hx ▸ h
theorem P_rep (h : P y) : ∀ x ∈ List.replicate n y, P x := fun x hx => (List.mem_replicate.1 hx).2 ▸ h
theorem P_map {α : Type} {g : α → AV} {l : List α} (h : ∀ z, P (g z)) : ∀ x ∈ l.map g, P x := fun x hx => by obtain ⟨z, _, rfl⟩ := List.mem_map.1 hx; exact h z
theorem ok_all : ∀ {a : List AV}, (∀ x ∈ a, x.cellOK = true) → AV.cellsOK a = true
  | [], _ => rfl
  | x :: a, h => by rw [AV.cellsOK, h x (by simp), ok_all fun y hy => h y (by simp [hy])]; rfl
end
end Go.SX
namespace Go.SX
open Go.RowKit
set_option linter.unusedVariables false
set_option linter.unusedSimpArgs false
theorem sizes_one : ∀ {fs : List AV}, (∀ y ∈ fs, y.size = 1) → AV.sizes fs = fs.length
  | [], _ => rfl
  | y :: fs, h => by rw [AV.sizes, h y (by simp), sizes_one fun z hz => h z (by simp [hz]), List.length_cons]; omega
section
variable {P : Program} {af : AF} {ah : AH} {d : Option Tmp} {T : TypeId} {ps : String} {es : Array Edge} {gd : Option (Nat × Bool)}
theorem AOp.index_own (sz : Nat) {x y : Operand} {b n c : Nat} {t : TypeId} {k : IntKind} {i : Int} (hx : aeval af x = some (.osl b n c)) (hy : aeval af y = some (.int k i)) (h0 : 0 ≤ i) (h1 : i < n)
    (he : esize P t = some sz) : AOp P ⟨d, .indexAddr t x y, T, ps, es, gd⟩ af ah (D (.ref b (i.toNat * sz)) ah) :=
  AOp.of_pure fun S a w hfr _ => by
    obtain ⟨hu, _, _⟩ := (aeval_rel hfr hx).osl
    refine ⟨_, by simp only [execOp, hu, (aeval_rel hfr hy).int, Sem.run_bind, run_indexAt he h0 h1, Result.andThen_ok]; simp; rfl, ?_⟩
    rw [addr_add]
    simpa using mk_ref
theorem AOp.index_val (sz : Nat) {x y : Operand} {A : Option Addr} {b n c : Nat} {t : TypeId} {k : IntKind} {i : Int} (hx : aeval af x = some (.val (.slice A n c))) (hA : A = some ⟨b, 0, none⟩) (hy : aeval af y = some (.int k i)) (h0 : 0 ≤ i) (h1 : i < n)
    (he : esize P t = some sz) : AOp P ⟨d, .indexAddr t x y, T, ps, es, gd⟩ af ah (D (.ref b (i.toNat * sz)) ah) :=
  AOp.of_pure fun S a w hfr _ => by
    subst hA
    have hu := (aeval_rel hfr hx).val
    refine ⟨_, by simp only [execOp, hu, (aeval_rel hfr hy).int, Sem.run_bind, run_indexAt he h0 h1, Result.andThen_ok]; simp; rfl, ?_⟩
    rw [addr_add]
    simpa using mk_ref
theorem row_size {S : Rg} {w : World} {b : Nat} {xs : List AV} {cs : Array Value} (hr : ∀ (i : Nat) x, xs[i]? = some x → ∃ v, cs[i]? = some v ∧ RelC S w x [v]) : xs.length ≤ cs.size := by
  rcases Nat.eq_zero_or_pos xs.length with h | h
  · omega
  · obtain ⟨v, hv, _⟩ := hr (xs.length - 1) xs[xs.length - 1] (List.getElem?_eq_getElem (by omega))
    have := (Array.getElem?_eq_some_iff.1 hv).1
    omega
theorem row_read {w w' : World} {b n c sz m : Nat} {cs : Array Value} {tt : TypeId} (hh : w.heap[b]? = some (.cells cs tt (0, 0))) (hw : w'.heap = w.heap) (hm : m * sz ≤ cs.size) :
    (Builtin.firstCells sz m (.slice (some ⟨b, 0, none⟩) n c)).run P w' = .ok (cs.toList.take (m * sz)).toArray w' := by
  simp only [Builtin.firstCells, loadCells]
  rw [run_loadCellsFrom _ 0 (cs.toList.take (m * sz)) #[] (by simp; omega) (fun k v hk => by
    rw [addr_add, cell_of_row w' b _ cs tt (0, 0) (by rw [hw]; exact hh)]
    rw [List.getElem?_take] at hk
    split at hk
    · simpa using hk
    · cases hk)]
  simp
theorem src_one {S : Rg} {w w' : World} {fs : List AV} {A : Option Addr} {c sz : Nat} (h : ([AV.st fs] : List AV) ≠ [] → ∃ b o sz, A = some ⟨b, o, none⟩ ∧ RelRow S w [AV.st fs] sz b o) (hf1 : ∀ y ∈ fs, y.size = 1) (hsz : fs.length = sz) (hw : w'.heap = w.heap) :
    ∃ ds : List Value, (Builtin.firstCells sz 1 (.slice A 1 c)).run P w' = .ok ds.toArray w' ∧ RelCs S w fs ds ∧ ds.length = sz := by
  obtain ⟨ds, h1, h2, h3⟩ := run_first (P := P) (w' := w') (c := c) (sz := sz) h (by intro y hy; rw [List.mem_singleton.1 hy]; simp only [AV.size]; rw [sizes_one hf1, hsz]) hw
  refine ⟨ds, h1, ?_, by simpa using h3⟩
  rw [RelCs] at h2
  obtain ⟨c1, c2, e, k1, k2⟩ := h2
  rw [RelCs] at k2
  subst k2
  rw [RelC] at k1
  rw [e, List.append_nil]
  exact k1
theorem AOp.append_own {x y : Operand} {b n c i sz e bytes : Nat} {us fs : List AV} {t t2 : TypeId} (hx : aeval af x = some (.osl b n c)) (hi : ah[i]? = some (.row b (us ++ List.replicate ((c - n) * sz) .any))) (hu : us.length = n * sz) (hy : aeval af y = some (.sl [.st fs])) (hfl : fs.length = sz) (hf1 : ∀ y ∈ fs, y.size = 1) (hok : AV.cellsOK fs = true)
    (ht : appTy P t = some (e, sz, bytes)) (ht2 : isSlTy P t2 = true) (hb : (n + 1) * bytes ≤ 140737488355328) (h63 : n + 1 ≤ 9223372036854775807) :
    AOp P ⟨d, .call ⟨.builtin .append, #[x, y], #[t, t2]⟩, T, ps, es, gd⟩ af ah (fun r h => ∃ b' c', n + 1 ≤ c' ∧ r = .ret (.osl b' (n + 1) c') ∧ h = ah.set i (.row b' (us ++ fs ++ List.replicate ((c' - (n + 1)) * sz) .any))) := .mk fun Fr a w hst hf => by
  obtain ⟨hux, hl1, hl2⟩ := (aeval_rel hf hx).osl
  obtain ⟨A2, c2, hu2, hl2', hm2, hrow2⟩ := srcOf_rel (aeval_rel hf hy) rfl
  have him := List.mem_of_getElem? hi
  obtain ⟨cs, tt, hh, hr⟩ := hst.rel _ him
  have hsz0 := row_size (b := b) hr
  have hcsz : n * sz + (c - n) * sz ≤ cs.size := by rw [List.length_append, hu, List.length_replicate] at hsz0; exact hsz0
  have hpos : 0 < sz := by obtain ⟨_, _, _, _, _, _, _, _, h⟩ := appTy_parts ht; exact h
  have hexec : ∀ r, (Builtin.append_ #[t, t2] T #[.slice (some ⟨b, 0, none⟩) n c, .slice A2 1 c2]).run P w = r → (execOp a.eval ⟨d, .call ⟨.builtin .append, #[x, y], #[t, t2]⟩, T, ps, es, gd⟩).run P w = r.andThen fun v w' => .ok (.value v) w' := by
    intro r hr
    simp only [execOp, resolve, invoke, builtin, Sem.run_bind, Sem.run_pure, Result.andThen_ok, List.map_toArray, List.map_cons, List.map_nil, hux, hu2]
    simp only [List.length_cons, List.length_nil, Nat.zero_add]
    rw [hr]
  by_cases hroom : n + 1 ≤ c
  · obtain ⟨news, hn1, hn2, hn3⟩ := src_one (P := P) (w' := w) (c := c2) hrow2 hf1 hfl rfl
    have hrun := run_append_room (ty := T) (base := some ⟨b, 0, none⟩) (n := n) (cap := c) ht ht2 hn1 hroom
    have hmul : (c - n) * sz = sz + (c - (n + 1)) * sz := by rw [show c - n = (c - (n + 1)) + 1 by omega, Nat.add_mul]; omega
    obtain ⟨w', r1, k1, k2, k3⟩ := hst.laid (P := P) (ys := fs) (ds := news) (o := n * sz) hi (by rw [List.length_append, hu, List.length_replicate, hfl, hmul]; omega) (by rw [hn3, hfl]) (RelCs.cellOK _ news hn2 hok) (fun j y hj => RelCs.get1 hn2 hf1 j y hj)
    simp only [addr_add, Nat.zero_add, r1, Result.andThen_ok] at hrun
    rw [hexec _ hrun]
    simp only [Result.andThen_ok]
    have hrw : (us ++ List.replicate ((c - n) * sz) AV.any).take (n * sz) ++ fs ++ (us ++ List.replicate ((c - n) * sz) AV.any).drop (n * sz + fs.length) = us ++ fs ++ List.replicate ((c - (n + 1)) * sz) AV.any := by
      rw [← hu, List.take_left, hfl, ← List.drop_drop, List.drop_left, List.drop_replicate, hmul]
      congr 2
      omega
    rw [hrw] at k1 k3
    exact ⟨_, _, ⟨b, c, hroom, rfl, rfl⟩, ⟨_, rfl, mk_osl hroom hl2⟩, k1, k2, k3⟩
  · obtain rfl : c = n := by omega
    obtain ⟨news, hn1, hn2, hn3⟩ := src_one (P := P) (w' := w.drew) (c := c2) hrow2 hf1 hfl rfl
    have ho1 := row_read (P := P) (w' := w.drew) (n := c) (c := c) (sz := sz) (m := c) hh rfl (by omega)
    obtain ⟨c', z, hc1, hc2, hzs, hrun⟩ := run_append_grow (ty := T) ht ht2 hn1 ho1 (by omega) hb (by simpa [maxLen] using h63)
    rw [hexec _ hrun]
    simp only [Result.andThen_ok]
    rw [Nat.sub_self, Nat.zero_mul, List.replicate_zero, List.append_nil] at hr hi
    have hol : (cs.toList.take (c * sz)).length = c * sz := by rw [List.length_take, Array.length_toList]; omega
    generalize hcs : (cs.toList.take (c * sz)).toArray ++ news.toArray ++ Builtin.zeroCells z.cells (c' - (c + 1)) = cs'
    have hcsz' : cs'.size = c' * sz := by
      rw [← hcs]
      simp only [Array.size_append, List.size_toArray, size_zeroCells, hol, hn3, hzs]
      rw [show c' * sz = (c + 1 + (c' - (c + 1))) * sz by congr 1; omega, Nat.add_mul, Nat.add_mul]
      omega
    have hext0 : Ext (fun _ _ => False) w (w.drew.alloc (.cells cs' e)) :=
      ⟨rfl, rfl, rfl, by simp, fun k hk _ => Below.heap_alloc w.drew _ k hk, fun ad v hc _ => (World.cell?_alloc_lt w.drew _ ad (cell_lt hc)).trans hc⟩
    obtain ⟨k1, k2, k3⟩ := hst.update (x' := .row w.heap.size (us ++ fs ++ List.replicate ((c' - (c + 1)) * sz) .any)) hi (hext0.mono fun _ _ h => h.elim) (fun k h => .inr (by simp only [Own.blk, Option.some.injEq] at h; omega))
      (fun k o hk h => by have h' : k = w.heap.size := h; omega) (fun k h => by simp only [Own.blk, Option.some.injEq] at h; subst h; simp) (fun m => by
        refine ⟨cs', e, heap_alloc_new w.drew _, fun j v hj => ?_⟩
        have hjl := (List.getElem?_eq_some_iff.1 hj).1
        simp only [List.length_append, List.length_replicate, hu, hfl] at hjl
        have e1 : c' * sz = c * sz + sz + (c' - (c + 1)) * sz := by
          rw [show c' * sz = (c + 1 + (c' - (c + 1))) * sz by congr 1; omega, Nat.add_mul, Nat.add_mul]; omega
        by_cases h1 : j < c * sz
        · rw [List.append_assoc, List.getElem?_append_left (by omega)] at hj
          obtain ⟨u, hu1, hu2⟩ := hr j v hj
          refine ⟨u, ?_, RelC.mv m _ _ hu2⟩
          rw [← hcs, Array.append_assoc, Array.getElem?_append_left (by simp only [List.size_toArray]; omega)]
          simp only [List.getElem?_toArray]
          rw [List.getElem?_take, if_pos h1]
          simpa using hu1
        · by_cases h2 : j < c * sz + sz
          · rw [List.getElem?_append_left (by simp only [List.length_append, hu, hfl]; omega), List.getElem?_append_right (by omega), hu] at hj
            obtain ⟨u, hu1, hu2⟩ := RelCs.get1 hn2 hf1 _ v hj
            refine ⟨u, ?_, RelC.mv m _ _ hu2⟩
            rw [← hcs, Array.getElem?_append_left (by simp only [Array.size_append, List.size_toArray]; omega), Array.getElem?_append_right (by simp only [List.size_toArray]; omega)]
            simp only [List.getElem?_toArray, List.size_toArray, hol]
            exact hu1
          · rw [List.getElem?_append_right (by simp only [List.length_append, hu, hfl]; omega), List.getElem?_replicate] at hj
            split at hj
            · obtain rfl := Option.some.inj hj
              exact ⟨cs'[j]'(by omega), Array.getElem?_eq_getElem _, by simp [RelC]⟩
            · cases hj)
    exact ⟨_, _, ⟨w.heap.size, c', hc1, rfl, rfl⟩, ⟨_, rfl, mk_osl hc1 hc2⟩, k1, k2, k3⟩
theorem AOp.append_own0 {x y : Operand} {sz e bytes : Nat} {fs : List AV} {t t2 : TypeId} (hx : aeval af x = some nilS) (hy : aeval af y = some (.sl [.st fs])) (hfl : fs.length = sz) (hf1 : ∀ y ∈ fs, y.size = 1)
    (ht : appTy P t = some (e, sz, bytes)) (ht2 : isSlTy P t2 = true) (hb : bytes ≤ 140737488355328) :
    AOp P ⟨d, .call ⟨.builtin .append, #[x, y], #[t, t2]⟩, T, ps, es, gd⟩ af ah (fun r h => ∃ b' c', 1 ≤ c' ∧ r = .ret (.osl b' 1 c') ∧ h = .row b' (fs ++ List.replicate ((c' - 1) * sz) .any) :: ah) := .mk fun Fr a w hst hf => by
  have hux := (aeval_rel hf hx).val
  obtain ⟨A2, c2, hu2, hl2', hm2, hrow2⟩ := srcOf_rel (aeval_rel hf hy) rfl
  have hexec : ∀ r, (Builtin.append_ #[t, t2] T #[.slice none 0 0, .slice A2 1 c2]).run P w = r → (execOp a.eval ⟨d, .call ⟨.builtin .append, #[x, y], #[t, t2]⟩, T, ps, es, gd⟩).run P w = r.andThen fun v w' => .ok (.value v) w' := by
    intro r hr
    simp only [execOp, resolve, invoke, builtin, Sem.run_bind, Sem.run_pure, Result.andThen_ok, List.map_toArray, List.map_cons, List.map_nil, hux, hu2]
    simp only [List.length_cons, List.length_nil, Nat.zero_add]
    rw [hr]
  obtain ⟨news, hn1, hn2, hn3⟩ := src_one (P := P) (w' := w.drew) (c := c2) hrow2 hf1 hfl rfl
  have hold : (Builtin.firstCells sz 0 (.slice none 0 0)).run P w.drew = .ok ([] : List Value).toArray w.drew := by simp [Builtin.firstCells]
  obtain ⟨c', z, hc1, hc2, hzs, hrun⟩ := run_append_grow (ty := T) ht ht2 hn1 hold (by omega) (by omega) (by simp [maxLen])
  rw [Nat.zero_add] at hc1 hrun
  rw [hexec _ hrun]
  simp only [Result.andThen_ok]
  generalize hcs : ([] : List Value).toArray ++ news.toArray ++ Builtin.zeroCells z.cells (c' - 1) = cs'
  have hcsz' : cs'.size = sz + (c' - 1) * sz := by
    rw [← hcs]
    simp only [Array.size_append, List.size_toArray, size_zeroCells, hn3, hzs, List.length_nil, Nat.zero_add]
  have hext0 : Ext (fun _ _ => False) w (w.drew.alloc (.cells cs' e)) :=
    ⟨rfl, rfl, rfl, by simp, fun k hk _ => Below.heap_alloc w.drew _ k hk, fun ad v hc _ => (World.cell?_alloc_lt w.drew _ ad (cell_lt hc)).trans hc⟩
  obtain ⟨k1, k2, k3⟩ := hst.cons (x := .row w.heap.size (fs ++ List.replicate ((c' - 1) * sz) .any)) (b := w.heap.size) rfl (Nat.le_refl _) (by simp) hext0 (fun m => by
      refine ⟨cs', e, heap_alloc_new w.drew _, fun j v hj => ?_⟩
      have hjl := (List.getElem?_eq_some_iff.1 hj).1
      simp only [List.length_append, List.length_replicate, hfl] at hjl
      by_cases h2 : j < sz
      · rw [List.getElem?_append_left (by omega)] at hj
        obtain ⟨u, hu1, hu2⟩ := RelCs.get1 hn2 hf1 _ v hj
        refine ⟨u, ?_, RelC.mv m _ _ hu2⟩
        rw [← hcs, Array.getElem?_append_left (by simp only [Array.size_append, List.size_toArray, List.length_nil]; omega), Array.getElem?_append_right (by simp)]
        simpa using hu1
      · rw [List.getElem?_append_right (by omega), List.getElem?_replicate] at hj
        split at hj
        · obtain rfl := Option.some.inj hj
          exact ⟨cs'[j]'(by omega), Array.getElem?_eq_getElem _, by simp [RelC]⟩
        · cases hj)
  exact ⟨_, _, ⟨w.heap.size, c', hc1, rfl, rfl⟩, ⟨_, rfl, mk_osl hc1 hc2⟩, k1, k2, k3⟩
theorem AOp.append_clone {x y : Operand} {b0 b2 n2 cc2 i j e bytes : Nat} {ys : List AV} {t t2 : TypeId} (hx : aeval af x = some (.slt [] (some b0) 0)) (hi : ah[i]? = some (.tail (some b0) 0 0 1)) (hy : aeval af y = some (.osl b2 n2 cc2)) (hj : ah[j]? = some (.row b2 ys)) (hn2 : n2 = ys.length) (hp : 0 < n2)
    (ht : appTy P t = some (e, 1, bytes)) (ht2 : isSlTy P t2 = true) (hb : n2 * bytes ≤ 140737488355328) (h63 : n2 ≤ 9223372036854775807) :
    AOp P ⟨d, .call ⟨.builtin .append, #[x, y], #[t, t2]⟩, T, ps, es, gd⟩ af ah (fun r h => ∃ b' c', n2 ≤ c' ∧ r = .ret (.osl b' n2 c') ∧ h = ah.set i (.row b' ys)) := .mk fun Fr a w hst hf => by
  obtain ⟨hux, _, _, _⟩ := (aeval_rel hf hx).slt
  obtain ⟨hu2, hl1, hl2⟩ := (aeval_rel hf hy).osl
  obtain ⟨cs, tt, hh, hr⟩ := hst.rel _ (List.mem_of_getElem? hj)
  have hsz0 := row_size (b := b2) hr
  have hexec : ∀ r, (Builtin.append_ #[t, t2] T #[.slice (some ⟨b0, 0, none⟩) 0 0, .slice (some ⟨b2, 0, none⟩) n2 cc2]).run P w = r → (execOp a.eval ⟨d, .call ⟨.builtin .append, #[x, y], #[t, t2]⟩, T, ps, es, gd⟩).run P w = r.andThen fun v w' => .ok (.value v) w' := by
    intro r hr
    simp only [execOp, resolve, invoke, builtin, Sem.run_bind, Sem.run_pure, Result.andThen_ok, List.map_toArray, List.map_cons, List.map_nil, hux, hu2, Option.map_some, List.length_nil]
    rw [hr]
  have hn1 := row_read (P := P) (w' := w.drew) (n := n2) (c := cc2) (sz := 1) (m := n2) hh rfl (by omega)
  have hold : (Builtin.firstCells 1 0 (.slice (some ⟨b0, 0, none⟩) 0 0)).run P w.drew = .ok ([] : List Value).toArray w.drew := by simp [Builtin.firstCells, loadCells, loadCellsFrom]
  obtain ⟨c', z, hc1, hc2, hzs, hrun⟩ := run_append_grow (ty := T) ht ht2 hn1 hold (by omega) (by rw [Nat.zero_add]; exact hb) (by simpa [maxLen] using h63)
  rw [Nat.zero_add] at hc1 hrun
  rw [hexec _ hrun]
  simp only [Result.andThen_ok]
  rw [Nat.mul_one] at *
  generalize hcs : ([] : List Value).toArray ++ (cs.toList.take n2).toArray ++ Builtin.zeroCells z.cells (c' - n2) = cs'
  have hext0 : Ext (fun _ _ => False) w (w.drew.alloc (.cells cs' e)) :=
    ⟨rfl, rfl, rfl, by simp, fun k hk _ => Below.heap_alloc w.drew _ k hk, fun ad v hc _ => (World.cell?_alloc_lt w.drew _ ad (cell_lt hc)).trans hc⟩
  obtain ⟨k1, k2, k3⟩ := hst.update (x' := .row w.heap.size ys) hi (hext0.mono fun _ _ h => h.elim) (fun k h => .inr (by simp only [Own.blk, Option.some.injEq] at h; omega))
    (fun k o hk h => by have h' : k = w.heap.size := h; omega) (fun k h => by simp only [Own.blk, Option.some.injEq] at h; subst h; simp) (fun m => by
      refine ⟨cs', e, heap_alloc_new w.drew _, fun k v hk => ?_⟩
      have hkl := (List.getElem?_eq_some_iff.1 hk).1
      obtain ⟨u, hu1, hu2⟩ := hr k v hk
      refine ⟨u, ?_, RelC.mv m _ _ hu2⟩
      rw [← hcs, Array.getElem?_append_left (by simp only [Array.size_append, List.size_toArray, List.length_nil, List.length_take, Array.length_toList]; omega), Array.getElem?_append_right (by simp)]
      simp only [List.getElem?_toArray, List.size_toArray, List.length_nil, Nat.sub_zero]
      rw [List.getElem?_take, if_pos (by omega)]
      simpa using hu1)
  exact ⟨_, _, ⟨w.heap.size, c', hc1, rfl, rfl⟩, ⟨_, rfl, mk_osl hc1 hc2⟩, k1, k2, k3⟩
end
section
variable {C : Cx} {ds : List Deferred} {ks : List K} {af : AF} {aq ae : AH} {ops : Array Oper} {n : Nat} {rem : List Nat} {vs : List AV} {q : Nat} {f : AF}
theorem AX.og (q : Nat) {o : Oper} {f : AF} (h : AXO C ds ks ops af aq n rem vs ae q o f) (ho : ops[q]? = some o := by exact rfl) (hkp : keep (oslots ops o) (frameOf ops vs af (down q)) = f := by exact rfl) (hg : gdo ops f o = some true := by exact rfl) (hr : readyL ops rem = [q] := by kernel_rfl) : AX C ds ks ops af aq (n + 1) rem vs ae :=
  AX.one q hr (by obtain ⟨Φ, h1, h2, h3⟩ := h.out; exact ⟨o, ho, .inr ⟨hkp ▸ hg, Φ, hkp ▸ h1, h2, h3⟩⟩)
theorem AXO.append_own {x y : Operand} {b k c i sz e bytes dd : Nat} {us fs : List AV} {t t2 T : TypeId} {ps : String} {es : Array Edge} (hx : aeval f x = some (.osl b k c)) (hi : ae[i]? = some (.row b (us ++ List.replicate ((c - k) * sz) .any))) (hu : us.length = k * sz) (hy : aeval f y = some (.sl [.st fs])) (hfl : fs.length = sz) (hf1 : ∀ y ∈ fs, y.size = 1) (hok : AV.cellsOK fs = true)
    (ht : appTy C.P t = some (e, sz, bytes)) (ht2 : isSlTy C.P t2 = true) (hb : (k + 1) * bytes ≤ 140737488355328) (h63 : k + 1 ≤ 9223372036854775807)
    (hk : ∀ b' c', k + 1 ≤ c' → AX C ds ks ops af aq n (rem.erase q) (vs.set q (.osl b' (k + 1) c')) (ae.set i (.row b' (us ++ fs ++ List.replicate ((c' - (k + 1)) * sz) .any)))) : AXO C ds ks ops af aq n rem vs ae q ⟨some dd, .call ⟨.builtin .append, #[x, y], #[t, t2]⟩, T, ps, es, none⟩ f :=
  ⟨_, AOp.append_own hx hi hu hy hfl hf1 hok ht ht2 hb h63, by rintro _ _ ⟨b', c', h, e, rfl⟩; injection e with e; subst e; exact hk b' c' h, by rintro _ _ ⟨b', c', _, e, _⟩; cases e⟩
theorem AXO.append_own0 {x y : Operand} {sz e bytes dd : Nat} {fs : List AV} {t t2 T : TypeId} {ps : String} {es : Array Edge} (hx : aeval f x = some nilS) (hy : aeval f y = some (.sl [.st fs])) (hfl : fs.length = sz) (hf1 : ∀ y ∈ fs, y.size = 1)
    (ht : appTy C.P t = some (e, sz, bytes)) (ht2 : isSlTy C.P t2 = true) (hb : bytes ≤ 140737488355328)
    (hk : ∀ b' c', 1 ≤ c' → AX C ds ks ops af aq n (rem.erase q) (vs.set q (.osl b' 1 c')) (.row b' (fs ++ List.replicate ((c' - 1) * sz) .any) :: ae)) : AXO C ds ks ops af aq n rem vs ae q ⟨some dd, .call ⟨.builtin .append, #[x, y], #[t, t2]⟩, T, ps, es, none⟩ f :=
  ⟨_, AOp.append_own0 hx hy hfl hf1 ht ht2 hb, by rintro _ _ ⟨b', c', h, e, rfl⟩; injection e with e; subst e; exact hk b' c' h, by rintro _ _ ⟨b', c', _, e, _⟩; cases e⟩
theorem AXO.append_clone {x y : Operand} {b0 b2 n2 cc2 i j e bytes dd : Nat} {ys : List AV} {t t2 T : TypeId} {ps : String} {es : Array Edge} (hx : aeval f x = some (.slt [] (some b0) 0)) (hi : ae[i]? = some (.tail (some b0) 0 0 1)) (hy : aeval f y = some (.osl b2 n2 cc2)) (hj : ae[j]? = some (.row b2 ys)) (hn2 : n2 = ys.length) (hp : 0 < n2)
    (ht : appTy C.P t = some (e, 1, bytes)) (ht2 : isSlTy C.P t2 = true) (hb : n2 * bytes ≤ 140737488355328) (h63 : n2 ≤ 9223372036854775807)
    (hk : ∀ b' c', n2 ≤ c' → AX C ds ks ops af aq n (rem.erase q) (vs.set q (.osl b' n2 c')) (ae.set i (.row b' ys))) : AXO C ds ks ops af aq n rem vs ae q ⟨some dd, .call ⟨.builtin .append, #[x, y], #[t, t2]⟩, T, ps, es, none⟩ f :=
  ⟨_, AOp.append_clone hx hi hy hj hn2 hp ht ht2 hb h63, by rintro _ _ ⟨b', c', h, e, rfl⟩; injection e with e; subst e; exact hk b' c' h, by rintro _ _ ⟨b', c', _, e, _⟩; cases e⟩
end
end Go.SX
namespace Go.SX
open Go.RowKit
set_option linter.unusedVariables false
set_option linter.unusedSimpArgs false
theorem relc_frozen {Fr : Rg} {ah : AH} {w : World} (st : St Fr ah w) {i b n c : Nat} {xs : List AV} (hi : ah[i]? = some (.row b xs)) (hn : n = xs.length) (hs : ∀ x ∈ xs, x.size = 1) {cs' : List Value} (h : RelC (Sof Fr (ah.eraseIdx i)) w (.osl b n c) cs') : RelC (Sof Fr (ah.eraseIdx i)) w (.sl xs) cs' := by
  obtain ⟨cs, t, hh, hr⟩ := st.rel _ (List.mem_of_getElem? hi)
  have hbm := List.mem_of_getElem? hi
  have hsof : ∀ b o, Sof Fr (ah.eraseIdx i) b o → Sof Fr ah b o := fun b o hs => hs.elim .inl fun hr => .inr (reg_sub (List.eraseIdx_sublist ah i) hr)
  simp only [RelC] at h ⊢
  obtain ⟨rfl, hl1, hl2⟩ := h
  subst hn
  refine ⟨_, c, rfl, hl1, hl2, fun _ => ⟨b, 0, 1, rfl, ?_⟩⟩
  have hno : ∀ o, ¬ Sof Fr (ah.eraseIdx i) b o := by
    rintro o (hF | ⟨y, hy, hy'⟩)
    · exact st.fr _ hbm b rfl _ hF
    · have hyb := reg_blk hy'
      obtain ⟨e1, _⟩ := mem_split hi
      have hn := st.nodup
      rw [e1, List.filterMap_append, List.nodup_append, List.filterMap_cons] at hn
      simp only [Own.blk] at hn
      rw [List.eraseIdx_eq_take_drop_succ] at hy
      rcases List.mem_append.1 hy with hy | hy
      · exact hn.2.2 b (List.mem_filterMap.2 ⟨y, hy, hyb⟩) b (by simp) rfl
      · exact (List.nodup_cons.1 hn.2.1).1 (List.mem_filterMap.2 ⟨y, hy, hyb⟩)
  have key : ∀ (l : List AV) (o : Nat), (∀ (k : Nat) x, l[k]? = some x → ∃ v, cs[o + k]? = some v ∧ RelC (Sof Fr ah) w x [v]) → RelRow (Sof Fr (ah.eraseIdx i)) w l 1 b o := by
    intro l
    induction l with
    | nil => intro o _; simp [RelRow]
    | cons x l ih =>
      intro o h
      simp only [RelRow]
      obtain ⟨v, hv, hrv⟩ := h 0 x rfl
      refine ⟨⟨[v], rfl, RelC.mv (Mv.same w hsof) _ _ hrv, fun j u hj => ⟨hno _, ?_⟩⟩, ih (o + 1) fun k y hk => ?_⟩
      · cases j with
        | zero => simp only [List.getElem?_cons_zero, Option.some.injEq] at hj; subst hj; rw [cell_of_row w b _ cs t (0, 0) hh]; exact hv
        | succ j => simp at hj
      · obtain ⟨v, hv, hrv⟩ := h (k + 1) y (by simpa using hk)
        exact ⟨v, by rw [show o + 1 + k = o + (k + 1) by omega]; exact hv, hrv⟩
  exact key xs 0 fun k x hk => by rw [Nat.zero_add]; exact hr k x hk
section
variable {C : Cx} {ds : List Deferred} {ks : List K} {af : AF} {ah : AH}
theorem AW.freeze_at (i d : Nat) {b n c : Nat} {xs : List AV} {v v' : AV} (hi : ah[i]? = some (.row b xs)) (hd : get af d = some v) (hn : n = xs.length) (hs : ∀ x ∈ xs, x.size = 1) (hsh : ∀ u, Shape v u → Shape v' u)
    (hv : ∀ (S : Rg) w, (∀ cs, RelC S w (.osl b n c) cs → RelC S w (.sl xs) cs) → ∀ cs, RelC S w v cs → RelC S w v' cs) (k : AW C ds ks ((d, v') :: af) (ah.eraseIdx i)) : AW C ds ks af ah := .mk fun a w g => by
  have g' := g.sub (List.eraseIdx_sublist ah i)
  refine k.out a w { g' with fr := fun j u hj => ?_ }
  rw [get_cons] at hj
  by_cases e : d = j
  · subst e
    rw [if_pos rfl] at hj
    obtain rfl := Option.some.inj hj
    have h1 := g'.fr d _ hd
    exact ⟨hv _ _ (fun cs h => relc_frozen g.st hi hn hs h) _ h1.1, hsh _ h1.2⟩
  · rw [if_neg e] at hj
    exact g'.fr j u hj
end
section
variable {C : Cx} {ds : List Deferred} {ks : List K} {af : AF} {ah : AH}
theorem AW.row_pre (i : Nat) {b : Nat} {xs ys : List AV} (hi : ah[i]? = some (.row b (xs ++ ys))) (k : AW C ds ks af (ah.set i (.row b xs))) : AW C ds ks af ah := .mk fun a w g => by
  have hs := g.st.update (w' := w) (x' := .row b xs) hi (Ext.refl _ _) (fun b' h => .inl h) (fun b' o _ h => h) (fun b' h => g.st.lt _ (List.mem_of_getElem? hi) b' h) (fun m => by
    obtain ⟨cs, t, h1, h2⟩ := g.st.rel _ (List.mem_of_getElem? hi)
    refine ⟨cs, t, h1, fun j x hj => ?_⟩
    obtain ⟨v, hv, hr⟩ := h2 j x (by rw [List.getElem?_append_left (List.getElem?_eq_some_iff.1 hj).1]; exact hj)
    exact ⟨v, hv, RelC.mv m _ _ hr⟩)
  have hreg : ∀ b' o, reg (ah.set i (.row b xs)) b' o → reg ah b' o := by
    rintro b' o ⟨y, hy, hr⟩
    rcases List.mem_or_eq_of_mem_set hy with hy | rfl
    · exact ⟨y, hy, hr⟩
    · exact ⟨_, List.mem_of_getElem? hi, hr⟩
  exact k.out a w ⟨g.size, g.defers, hs.1, g.ext, fun b' o hb h => g.old b' o hb (hreg b' o h), AFRel.mv (Mv.same w fun b' o h => h.imp id (hreg b' o)) g.fr⟩
end
section
variable {S : Rg} {w : World}
theorem rel_set : ∀ {fs : List AV} {i : Nat} {y z : AV} {cs : List Value}, fs[i]? = some y → (∀ cs, RelC S w y cs → RelC S w z cs) → RelCs S w fs cs → RelCs S w (fs.set i z) cs
  | [], i, y, z, cs, h, _, _ => by simp at h
  | x :: fs, 0, y, z, cs, h, k, hr => by
    obtain rfl : x = y := by simpa using h
    rw [RelCs] at hr
    obtain ⟨c1, c2, e, h1, h2⟩ := hr
    rw [List.set_cons_zero, RelCs]
    exact ⟨c1, c2, e, k _ h1, h2⟩
  | x :: fs, i + 1, y, z, cs, h, k, hr => by
    rw [RelCs] at hr
    obtain ⟨c1, c2, e, h1, h2⟩ := hr
    rw [List.set_cons_succ, RelCs]
    exact ⟨c1, c2, e, h1, rel_set (by simpa using h) k h2⟩
theorem relc_set {fs : List AV} {cs : List Value} (i : Nat) {y : AV} (z : AV) (hi : fs[i]? = some y) (k : ∀ cs, RelC S w y cs → RelC S w z cs) (h : RelC S w (.st fs) cs) : RelC S w (.st (fs.set i z)) cs := by
  rw [RelC] at h ⊢
  exact rel_set hi k h
theorem relc_at {x y : AV} (k : ∀ cs, RelC S w x cs → RelC S w y cs) {cs : List Value} (h : RelC S w (.at x) cs) : RelC S w (.at y) cs := by
  simp only [RelC] at h ⊢
  obtain ⟨b, o, ds, e, h1, h2⟩ := h
  exact ⟨b, o, ds, e, k _ h1, h2⟩
theorem osl_val {b n c : Nat} {cs : List Value} (h : RelC S w (.osl b n c) cs) : RelC S w (.val (.slice (some ⟨b, 0, none⟩) n c)) cs := by
  simp only [RelC] at h ⊢
  rw [h.1]; rfl
end
section
variable {C : Cx} {ds : List Deferred} {ks : List K} {af : AF} {aq ae : AH} {ops : Array Oper} {n : Nat} {rem : List Nat} {vs : List AV} {q : Nat} {f : AF}
theorem AXO.makeSliceE {x y : Operand} {k dd : Nat} {i : Int} {t e bytes T : TypeId} {c : Value} {z : AV} {ps : String} {es : Array Edge} (hx : aeval f x = some (.int .i64 i)) (hy : aeval f y = some (.int .i64 i)) (hik : i = (k : Int)) (ht : rowTy C.P t = some (e, c, bytes)) (hz : z.flat = some [c]) (hb : k * bytes ≤ 16777216) (hn : k ≤ 16777216)
    (hk : ∀ b, AX C ds ks ops af aq n (rem.erase q) (vs.set q (.osl b k k)) (.row b (List.replicate k z) :: ae)) : AXO C ds ks ops af aq n rem vs ae q ⟨some dd, .makeSlice t x y, T, ps, es, none⟩ f := by
  subst hik
  exact AXO.makeSlice hx hy ht hz hb hn hk
theorem AXO.box {dd : Nat} {x : Operand} {v : AV} {t T : TypeId} {ps : String} {es : Array Edge} (hx : aeval f x = some v) (hv : v.isAny = false) (hk : ∀ b, AX C ds ks ops af aq n (rem.erase q) (vs.set q (.ref b 0)) (.box b v :: ae)) : AXO C ds ks ops af aq n rem vs ae q ⟨some dd, .box t x, T, ps, es, none⟩ f :=
  ⟨_, AOp.box hx hv, by rintro _ _ ⟨b, e, rfl⟩; injection e with e; subst e; exact hk b, by rintro _ _ ⟨b, e, _⟩; cases e⟩
end
end Go.SX
namespace Go.SX
open Go.RowKit
set_option linter.unusedVariables false
set_option linter.unusedSimpArgs false
def strT (P : Program) (t : TypeId) : Bool := match P.underlying t with | some .string => true | _ => false
theorem run_range_str {P : Program} (w : World) (t : TypeId) (s : ByteArray) (hu : P.underlying t = some .string) :
    (Instr.range t (.string s)).run P w = .ok (.pointer (some ⟨w.heap.size, 0, none⟩)) (w.alloc (.stringIter s 0)) := by
  simp [Instr.range, underlying, Sem.run_bind, Sem.run, hu, newObj, Result.andThen]
section
variable {P : Program} {af : AF} {ah : AH}
variable {d : Option Tmp} {T : TypeId} {ps : String} {es : Array Edge} {gd : Option (Nat × Bool)}
theorem AOp.rangeS {x : Operand} {s : ByteArray} {t : TypeId} (hx : aeval af x = some (.str s)) (ht : strT P t = true) :
    AOp P ⟨d, .range t x, T, ps, es, gd⟩ af ah (fun r h => ∃ it, r = .ret (.ref it 0) ∧ h = .siter it s 0 :: ah) := .mk fun Fr a w hst hf => by
  have hu : P.underlying t = some .string := by unfold strT at ht; split at ht <;> simp_all
  have hrun : (execOp a.eval ⟨d, .range t x, T, ps, ‹Array Edge›, gd⟩).run P w = .ok (.value (.pointer (some ⟨w.heap.size, 0, none⟩))) (w.alloc (.stringIter s 0)) := by
    simp [execOp, (aeval_rel hf hx).str, run_range_str w t s hu]
  rw [hrun]
  have hx' : Ext (fun _ _ => False) w (w.alloc (.stringIter s 0)) := Ext.alloc _ _ _
  obtain ⟨k1, k2, k3⟩ := hst.cons (x := .siter w.heap.size s 0) (b := w.heap.size) rfl (Nat.le_refl _) (by simp) hx' (fun m => heap_alloc_new w _)
  exact ⟨_, _, ⟨_, rfl, rfl⟩, ⟨_, rfl, mk_ref⟩, k1, k2, k3⟩
theorem AOp.nextS_end {x : Operand} {it j : Nat} {s : ByteArray} {p : Nat} (hx : aeval af x = some (.ref it 0)) (hj : ah[j]? = some (.siter it s p)) (hp : ¬ p < s.size) :
    AOp P ⟨d, .next x true, T, ps, es, gd⟩ af ah (D (.tup [.bool false]) ah) := .mk fun Fr a w hst hf => by
  have hit : w.heap[it]? = some (.stringIter s p) := hst.rel _ (List.mem_of_getElem? hj)
  have hexec : (execOp a.eval ⟨d, .next x true, T, ps, ‹Array Edge›, gd⟩).run P w = .ok (.value (.tuple #[.bool false])) w := by
    simp [execOp, (aeval_rel hf hx).ref, Instr.next, getObj, Sem.run_bind, Sem.run, hit, hp, Result.andThen]
  rw [hexec]
  refine ⟨.ret (.tup [.bool false]), ah, ⟨rfl, rfl⟩, ⟨_, rfl, ?_, by simp [Shape]⟩, hst, Ext.refl _ _, fun _ _ _ h => h⟩
  simp only [RelC, Value.cells]
  refine ⟨[.bool false], rfl, ?_⟩
  simp only [RelVs]
  exact ⟨_, _, rfl, by simp [RelC, Value.cells], by simp [Shape], rfl⟩
theorem AOp.nextS {x : Operand} {it j : Nat} {s : ByteArray} {p : Nat} (hx : aeval af x = some (.ref it 0)) (hj : ah[j]? = some (.siter it s p)) (hp : p < s.size) :
    AOp P ⟨d, .next x true, T, ps, es, gd⟩ af ah (D (.tup [.bool true, .int .i64 p, .int .i32 (Utf8.decode s p).1]) (ah.set j (.siter it s (p + (Utf8.decode s p).2)))) := .mk fun Fr a w hst hf => by
  have hjm := List.mem_of_getElem? hj
  have hit : w.heap[it]? = some (.stringIter s p) := hst.rel _ hjm
  have hlt : it < w.heap.size := hst.lt _ hjm it rfl
  have hexec : (execOp a.eval ⟨d, .next x true, T, ps, ‹Array Edge›, gd⟩).run P w = .ok (.value (.tuple #[.bool true, .int .i64 p, .int .i32 (Utf8.decode s p).1])) { w with heap := w.heap.setIfInBounds it (.stringIter s (p + (Utf8.decode s p).2)) } := by
    simp [execOp, (aeval_rel hf hx).ref, Instr.next, getObj, setObj, Sem.run_bind, Sem.run, hit, hp, Result.andThen, goInt]
  rw [hexec]
  have hext0 : Ext (fun b' _ => b' = it) w { w with heap := w.heap.setIfInBounds it (.stringIter s (p + (Utf8.decode s p).2)) } := set_objE hit (by intro _ _ _ h; cases h)
  obtain ⟨k1, k2, k3⟩ := hst.update (x' := .siter it s (p + (Utf8.decode s p).2)) hj hext0 (fun _ h => .inl h) (fun _ _ _ h => h) (fun k' hk' => by simp only [Own.blk, Option.some.injEq] at hk'; subst hk'; exact Nat.lt_of_lt_of_le hlt hext0.size) (fun m => by
    show _ = _
    simp [Array.getElem?_setIfInBounds, hlt])
  refine ⟨.ret (.tup [.bool true, .int .i64 p, .int .i32 (Utf8.decode s p).1]), _, ⟨rfl, rfl⟩, ⟨_, rfl, ?_, by simp [Shape]⟩, k1, k2, k3⟩
  simp only [RelC]
  refine ⟨[.bool true, .int .i64 p, .int .i32 (Utf8.decode s p).1], rfl, ?_⟩
  simp only [RelVs]
  exact ⟨_, _, rfl, by simp [RelC, Value.cells], by simp [Shape], _, _, rfl, by simp [RelC, Value.cells], by simp [Shape], _, _, rfl, by simp [RelC, Value.cells], by simp [Shape], rfl⟩
end
section
variable {C : Cx} {ds : List Deferred} {ks : List K} {af : AF} {ah : AH} {ops : Array Oper} {rest : List Oper}
theorem AL.rangeS {dd : Nat} {x : Operand} {s : ByteArray} {t T : TypeId} {ps : String} {es : Array Edge} (hx : aeval af x = some (.str s)) (ht : strT C.P t = true) (hn : Nat.blt dd C.n = true)
    (hk : ∀ it, AL C ds ks ops rest ((dd, .ref it 0) :: af) (.siter it s 0 :: ah)) : AL C ds ks ops (⟨some dd, .range t x, T, ps, es, none⟩ :: rest) af ah :=
  AL.step rfl hn (AOp.rangeS hx ht) (by rintro _ _ ⟨it, e, rfl⟩; injection e with e; subst e; exact hk it) (by rintro _ _ ⟨it, e, _⟩; cases e)
end
theorem decode_lo {s : ByteArray} {p : Nat} (hp : p < s.size) (h : (s[p]'hp).toNat < 128) : Utf8.decode s p = ((s[p]'hp).toNat, 1) := decode_ascii s p hp h
theorem decode_hi {s : ByteArray} {p : Nat} (hp : p < s.size) (h : ¬ (s[p]'hp).toNat < 128) : 128 ≤ (Utf8.decode s p).1 := by
  have hg : s.get! p = s[p]'hp := getElem!_pos s.data p hp
  unfold Utf8.decode
  simp only [Nat.add_zero, hg, if_neg h]
  split
  · split
    · assumption
    · decide
  · split
    · split
      · rename_i h3; simp at h3; show 128 ≤ _; omega
      · decide
    · split
      · split
        · rename_i h3; simp at h3; show 128 ≤ _; omega
        · decide
      · decide
end Go.SX
namespace Go.SX
open Go.RowKit
set_option linter.unusedVariables false
set_option linter.unusedSimpArgs false
def arrTy (P : Program) (T : TypeId) : Option (Nat × Nat × List Value) :=
  match P.underlying T, P.info? T with
  | some (.array n e), some i => match P.info? e, i.zero with
    | some j, some z => some (n, j.size, z.cells.toList)
    | _, _ => none
  | _, _ => none
def arrPl (n sz : Nat) : List (Nat × Nat) := (List.range n).map fun i => (i * sz, sz)
section
variable {P : Program} {af : AF} {ah : AH}
variable {d : Option Tmp} {T : TypeId} {ps : String} {es : Array Edge} {gd : Option (Nat × Bool)}
theorem AOp.buildA {t : TypeId} {parts : Array (Nat × Operand)} {n sz : Nat} {zc : List Value} {z : AV} {vs : List (Nat × AV)} {fs : List AV} (ht : arrTy P t = some (n, sz, zc)) (hz : z.flat = some zc) (hx : aparts af parts.toList = some vs)
    (hb : buildAV (arrPl n sz) z vs = some (.st fs)) : AOp P ⟨d, .build t parts, T, ps, es, gd⟩ af ah (D (.st fs) ah) :=
  AOp.of_pure fun S a w hf _ => by
    unfold arrTy at ht
    split at ht
    · rename_i m e i hu hi
      split at ht
      · rename_i j zv hl hzv
        simp only [Option.some.injEq, Prod.mk.injEq] at ht
        obtain ⟨rfl, rfl, rfl⟩ := ht
        obtain ⟨h1, h2⟩ := aparts_rel hf hx
        obtain ⟨cells', hfill, hr⟩ := fill_build (S := S) (w := w) (places := arrPl m j.size) (place := fun i => some (i * j.size, j.size)) (fun i p h => by
          unfold arrPl at h; rw [List.getElem?_map] at h
          cases hr : (List.range m)[i]? with
          | none => rw [hr] at h; cases h
          | some q => rw [hr] at h; rw [List.getElem?_range (by have := (List.getElem?_eq_some_iff.1 hr).1; simpa using this)] at hr; obtain rfl := Option.some.inj hr; simpa using h) vs _ z (.st fs) zv.cells h1 h2 (RelC.flat z _ hz) hb
        refine ⟨.agg cells', ?_, by simpa [Value.cells] using hr, by simp [Shape]⟩
        have hpa : (Array.map (fun x : Nat × Operand => (x.1, a.eval x.2)) parts).toList = parts.toList.map fun (i, x) => (i, a.eval x) := by simp
        simp only [execOp, Instr.build, zeroValue, typeInfo, program, sizeOf, Sem.run_bind, Sem.run, hi, hl, hzv, Sem.run_pure, Sem.run_map, Result.andThen_ok, run_underlying hu]
        rw [hpa, hfill]
        rfl
      · cases ht
    · cases ht
theorem run_indexArr {t : TypeId} {A : Addr} {n sz : Nat} {zc : List Value} {k : IntKind} {i : Int} (he : arrTy P t = some (n, sz, zc)) (h0 : 0 ≤ i) (h1 : i < n) (w : World) :
    (Instr.indexAt t (.pointer (some A)) (.int k i)).run P w = .ok (.pointer (some (A.add (i.toNat * sz)))) w := by
  unfold arrTy at he
  split at he
  · rename_i m e inf hu hi
    split at he
    · rename_i j zv hl hzv
      simp only [Option.some.injEq, Prod.mk.injEq] at he
      obtain ⟨rfl, rfl, rfl⟩ := he
      simp [Instr.indexAt, Instr.sureAddr, asIntOf, run_underlying hu, h0, h1, sizeOf, typeInfo, hl]
    · cases he
  · cases he
theorem AOp.index_at {x y : Operand} {fs : List AV} {v : AV} {t : TypeId} {k : IntKind} {i : Int} {n sz : Nat} {zc : List Value} (hx : aeval af x = some (.at (.st fs))) (hy : aeval af y = some (.int k i)) (h0 : 0 ≤ i) (h1 : i < n) (hv : fs[i.toNat]? = some v)
    (he : arrTy P t = some (n, sz, zc)) (ho : AV.sizes (fs.take i.toNat) = i.toNat * sz) : AOp P ⟨d, .indexAddr t x y, T, ps, es, gd⟩ af ah (D (.at v) ah) :=
  AOp.of_pure fun S a w hfr _ => by
    obtain ⟨b, o, ds, hu, hr, hc⟩ := (aeval_rel hfr hx).at
    simp only [RelC] at hr
    obtain ⟨cs, e1, e2⟩ := hr.field i.toNat v hv
    refine ⟨.pointer (some ⟨b, o + i.toNat * sz, none⟩), by simp only [execOp, hu, (aeval_rel hfr hy).int, Sem.run_bind, run_indexArr he h0 h1, Result.andThen_ok, addr_add]; simp, ?_, by simp [Shape]⟩
    simp only [RelC, Value.cells]
    refine ⟨b, o + i.toNat * sz, cs, rfl, e1, fun j u hj => ?_⟩
    have := hc _ _ (e2 j u hj)
    rwa [ho, ← Nat.add_assoc] at this
theorem AOp.index_ref {x y : Operand} {b o : Nat} {t : TypeId} {k : IntKind} {i : Int} {n sz : Nat} {zc : List Value} (hx : aeval af x = some (.ref b o)) (hy : aeval af y = some (.int k i)) (h0 : 0 ≤ i) (h1 : i < n)
    (he : arrTy P t = some (n, sz, zc)) : AOp P ⟨d, .indexAddr t x y, T, ps, es, gd⟩ af ah (D (.ref b (o + i.toNat * sz)) ah) :=
  AOp.of_pure fun S a w hfr _ => ⟨_, by simp only [execOp, (aeval_rel hfr hx).ref, (aeval_rel hfr hy).int, Sem.run_bind, run_indexArr he h0 h1, Result.andThen_ok, addr_add]; simp, mk_ref⟩
def intT (P : Program) (s t : TypeId) : Option IntKind := match P.underlying s, P.underlying t with | some _, some (.int k) => some k | _, _ => none
theorem AOp.conv {s t : TypeId} {x : Operand} {k k' : IntKind} {n m : Int} (hx : aeval af x = some (.int k n)) (ht : intT P s t = some k') (hm : k'.wrap n = m) : AOp P ⟨d, .convert s t x, T, ps, es, gd⟩ af ah (D (.int k' m) ah) :=
  AOp.of_pure fun S a w hfr _ => by
    unfold intT at ht
    split at ht
    · rename_i ds k1 h1 h2
      obtain rfl := Option.some.inj ht
      refine ⟨.int k1 m, ?_, by simp [RelC, Value.cells], by simp [Shape]⟩
      subst hm
      simp only [execOp, (aeval_rel hfr hx).int, convert, Conv.intToInt, Sem.run_bind, run_underlying h1, run_underlying h2, Result.andThen_ok, Sem.run_pure]
    · cases ht
end
end Go.SX
namespace Go.SX
open Go.RowKit
set_option linter.unusedVariables false
set_option linter.unusedSimpArgs false
section
variable {P : Program} {af : AF} {ah : AH} {d : Option Tmp} {T : TypeId} {ps : String} {es : Array Edge} {gd : Option (Nat × Bool)}
theorem exec_append {w : World} {a : Act} {x y : Operand} {t t2 : TypeId} {u1 u2 : Value} (h1 : a.eval x = u1) (h2 : a.eval y = u2) {r : Result Value} (hr : (Builtin.append_ #[t, t2] T #[u1, u2]).run P w = r) :
    (execOp a.eval ⟨d, .call ⟨.builtin .append, #[x, y], #[t, t2]⟩, T, ps, es, gd⟩).run P w = r.andThen fun v w' => .ok (.value v) w' := by
  simp only [execOp, resolve, invoke, builtin, Sem.run_bind, Sem.run_pure, Result.andThen_ok, List.map_toArray, List.map_cons, List.map_nil, h1, h2]
  rw [hr]
theorem AOp.append_i {x y : Operand} {b i e bytes : Nat} {us tl : List AV} {v : AV} {t t2 : TypeId} {c0 : Value} (hx : aeval af x = some (.osl b us.length (us.length + tl.length))) (hi : ah[i]? = some (.row b (us ++ tl))) (hy : aeval af y = some (.sl [v])) (hv : v.size = 1) (hok : AV.cellsOK [v] = true)
    (ht : rowTy P t = some (e, c0, bytes)) (ht2 : isSlTy P t2 = true) (hb : (us.length + 1) * bytes ≤ 140737488355328) (h63 : us.length + 1 ≤ 9223372036854775807) :
    AOp P ⟨d, .call ⟨.builtin .append, #[x, y], #[t, t2]⟩, T, ps, es, gd⟩ af ah (fun r h => ∃ b' tl', r = .ret (.osl b' (us ++ [v]).length ((us ++ [v]).length + tl'.length)) ∧ h = ah.set i (.row b' (us ++ [v] ++ tl'))) := by
  have hsz : ∀ y ∈ [v], y.size = 1 := by intro y hy; rw [List.mem_singleton.1 hy]; exact hv
  cases tl with
  | cons t0 tl =>
    refine .mk fun Fr a w hst hf => ?_
    have h := (AOp.append_osl (d := d) (T := T) (ps := ps) (es := es) (gd := gd) hx hi (by simp) hy rfl ht ht2 hsz hok (by simp)).out Fr a w hst hf
    have e1 : (us ++ t0 :: tl).take us.length ++ [v] ++ (us ++ t0 :: tl).drop (us.length + [v].length) = us ++ [v] ++ tl := by
      rw [List.take_left, ← List.drop_drop, List.drop_left]; rfl
    rw [e1] at h
    have e2 : us.length + (t0 :: tl).length = (us ++ [v]).length + tl.length := by simp; omega
    have e3 : us.length + [v].length = (us ++ [v]).length := by simp
    rw [e2, e3] at h
    exact Out.mono (fun _ _ => EndR.mono fun x q ⟨q1, q2⟩ => ⟨b, tl, q1, q2⟩) h
  | nil =>
    refine .mk fun Fr a w hst hf => ?_
    rw [List.append_nil] at hi
    rw [List.length_nil, Nat.add_zero] at hx
    obtain ⟨hux, hl1, hl2⟩ := (aeval_rel hf hx).osl
    obtain ⟨A2, c2, hu2, hl2', hm2, hrow2⟩ := srcOf_rel (aeval_rel hf hy) rfl
    have him := List.mem_of_getElem? hi
    obtain ⟨cs, tt, hh, hr⟩ := hst.rel _ him
    have hsz0 := row_size (b := b) hr
    obtain ⟨news, hn1, hn2, hn3⟩ := run_first (P := P) (w' := w.drew) (c := c2) (sz := 1) hrow2 hsz rfl
    have ho1 := row_read (P := P) (w' := w.drew) (n := us.length) (c := us.length) (sz := 1) (m := us.length) hh rfl (by omega)
    obtain ⟨c', z, hc1, hc2, hzs, hrun⟩ := run_append_grow (ty := T) (appRow ht) ht2 hn1 ho1 (by simp) (by simpa using hb) (by simpa [maxLen] using h63)
    rw [exec_append hux hu2 hrun]
    simp only [Result.andThen_ok]
    have hol : (cs.toList.take (us.length * 1)).length = us.length := by rw [List.length_take, show cs.toList.length = cs.size from rfl]; omega
    have hn3' : news.length = 1 := by simpa using hn3
    simp only [List.length_singleton] at hc1
    generalize hcs : (cs.toList.take (us.length * 1)).toArray ++ news.toArray ++ Builtin.zeroCells z.cells (c' - (us.length + [v].length)) = cs'
    have hcsz' : cs'.size = c' := by
      rw [← hcs]
      simp only [Array.size_append, List.size_toArray, size_zeroCells, hol, hn3', hzs, List.length_singleton]
      omega
    have hext0 : Ext (fun _ _ => False) w (w.drew.alloc (.cells cs' e)) :=
      ⟨rfl, rfl, rfl, by simp, fun k hk _ => Below.heap_alloc w.drew _ k hk, fun ad v hc _ => (World.cell?_alloc_lt w.drew _ ad (cell_lt hc)).trans hc⟩
    obtain ⟨k1, k2, k3⟩ := hst.update (x' := .row w.heap.size (us ++ [v] ++ List.replicate (c' - (us.length + 1)) .any)) hi (hext0.mono fun _ _ h => h.elim) (fun k h => .inr (by simp only [Own.blk, Option.some.injEq] at h; omega))
      (fun k o hk h => by have h' : k = w.heap.size := h; omega) (fun k h => by simp only [Own.blk, Option.some.injEq] at h; subst h; simp) (fun m => by
        refine ⟨cs', e, heap_alloc_new w.drew _, fun j u hj => ?_⟩
        have hjl := (List.getElem?_eq_some_iff.1 hj).1
        simp only [List.length_append, List.length_replicate, List.length_singleton] at hjl
        by_cases h1 : j < us.length
        · rw [List.append_assoc, List.getElem?_append_left h1] at hj
          obtain ⟨q, hu1, hu2⟩ := hr j u hj
          refine ⟨q, ?_, RelC.mv m _ _ hu2⟩
          rw [← hcs, Array.append_assoc, Array.getElem?_append_left (by simp only [List.size_toArray]; omega)]
          simp only [List.getElem?_toArray]
          rw [List.getElem?_take, if_pos (by omega)]
          simpa using hu1
        · by_cases h2 : j < us.length + 1
          · rw [List.getElem?_append_left (by simp only [List.length_append, List.length_singleton]; omega), List.getElem?_append_right (by omega)] at hj
            obtain ⟨q, hu1, hu2⟩ := RelCs.get1 hn2 hsz _ u hj
            refine ⟨q, ?_, RelC.mv m _ _ hu2⟩
            rw [← hcs, Array.getElem?_append_left (by simp only [Array.size_append, List.size_toArray]; omega), Array.getElem?_append_right (by simp only [List.size_toArray]; omega)]
            simp only [List.getElem?_toArray, List.size_toArray, hol]
            exact hu1
          · rw [List.getElem?_append_right (by simp only [List.length_append, List.length_singleton]; omega), List.getElem?_replicate] at hj
            split at hj
            · obtain rfl := Option.some.inj hj
              exact ⟨cs'[j]'(by omega), Array.getElem?_eq_getElem _, by simp [RelC]⟩
            · cases hj)
    have e3 : us.length + [v].length = (us ++ [v]).length := by simp
    have e4 : c' = (us ++ [v]).length + (List.replicate (c' - (us.length + 1)) AV.any).length := by simp; omega
    refine ⟨.ret (.osl w.heap.size (us ++ [v]).length ((us ++ [v]).length + (List.replicate (c' - (us.length + 1)) AV.any).length)), _, ⟨w.heap.size, _, rfl, rfl⟩, ⟨_, rfl, ?_⟩, k1, k2, k3⟩
    rw [← e4, ← e3]
    exact mk_osl (by simpa using hc1) hc2
theorem AOp.append_i0 {x y : Operand} {e bytes : Nat} {v : AV} {t t2 : TypeId} {c0 : Value} (hx : aeval af x = some nilS) (hy : aeval af y = some (.sl [v])) (hv : v.size = 1)
    (ht : rowTy P t = some (e, c0, bytes)) (ht2 : isSlTy P t2 = true) (hb : bytes ≤ 140737488355328) :
    AOp P ⟨d, .call ⟨.builtin .append, #[x, y], #[t, t2]⟩, T, ps, es, gd⟩ af ah (fun r h => ∃ b' tl', r = .ret (.osl b' [v].length ([v].length + tl'.length)) ∧ h = .row b' ([v] ++ tl') :: ah) := .mk fun Fr a w hst hf => by
  have hsz : ∀ y ∈ [v], y.size = 1 := by intro y hy; rw [List.mem_singleton.1 hy]; exact hv
  have hux := (aeval_rel hf hx).val
  obtain ⟨A2, c2, hu2, hl2', hm2, hrow2⟩ := srcOf_rel (aeval_rel hf hy) rfl
  obtain ⟨news, hn1, hn2, hn3⟩ := run_first (P := P) (w' := w.drew) (c := c2) (sz := 1) hrow2 hsz rfl
  have hold : (Builtin.firstCells 1 0 (.slice none 0 0)).run P w.drew = .ok ([] : List Value).toArray w.drew := by simp [Builtin.firstCells]
  obtain ⟨c', z, hc1, hc2, hzs, hrun⟩ := run_append_grow (ty := T) (appRow ht) ht2 hn1 hold (by simp) (by simpa using hb) (by simp [maxLen])
  rw [exec_append hux hu2 hrun]
  simp only [Result.andThen_ok]
  have hn3' : news.length = 1 := by simpa using hn3
  simp only [List.length_singleton, Nat.zero_add] at hc1
  generalize hcs : ([] : List Value).toArray ++ news.toArray ++ Builtin.zeroCells z.cells (c' - (0 + [v].length)) = cs'
  have hcsz' : cs'.size = c' := by
    rw [← hcs]
    simp only [Array.size_append, List.size_toArray, size_zeroCells, hn3', hzs, List.length_nil, Nat.zero_add, List.length_singleton]
    omega
  have hext0 : Ext (fun _ _ => False) w (w.drew.alloc (.cells cs' e)) :=
    ⟨rfl, rfl, rfl, by simp, fun k hk _ => Below.heap_alloc w.drew _ k hk, fun ad v hc _ => (World.cell?_alloc_lt w.drew _ ad (cell_lt hc)).trans hc⟩
  obtain ⟨k1, k2, k3⟩ := hst.cons (x := .row w.heap.size ([v] ++ List.replicate (c' - 1) .any)) (b := w.heap.size) rfl (Nat.le_refl _) (by simp) hext0 (fun m => by
      refine ⟨cs', e, heap_alloc_new w.drew _, fun j u hj => ?_⟩
      have hjl := (List.getElem?_eq_some_iff.1 hj).1
      simp only [List.length_append, List.length_replicate, List.length_singleton] at hjl
      by_cases h2 : j < 1
      · rw [List.getElem?_append_left (by simpa using h2)] at hj
        obtain ⟨q, hu1, hu2⟩ := RelCs.get1 hn2 hsz _ u hj
        refine ⟨q, ?_, RelC.mv m _ _ hu2⟩
        rw [← hcs, Array.getElem?_append_left (by simp only [Array.size_append, List.size_toArray, List.length_nil]; omega), Array.getElem?_append_right (by simp)]
        simpa using hu1
      · rw [List.getElem?_append_right (by simp; omega), List.getElem?_replicate] at hj
        split at hj
        · obtain rfl := Option.some.inj hj
          exact ⟨cs'[j]'(by omega), Array.getElem?_eq_getElem _, by simp [RelC]⟩
        · cases hj)
  have e4 : c' = [v].length + (List.replicate (c' - 1) AV.any).length := by simp; omega
  refine ⟨.ret (.osl w.heap.size [v].length ([v].length + (List.replicate (c' - 1) AV.any).length)), _, ⟨w.heap.size, _, rfl, rfl⟩, ⟨_, rfl, ?_⟩, k1, k2, k3⟩
  rw [← e4, Nat.zero_add]
  exact mk_osl (by simpa using hc1) hc2
end
section
variable {P : Program} {fn : Func} {n : Nat} {Fr R0 : Rg} {w0 : World} {Φ : AEnd → AH → Prop} {ks : List K} {af : AF} {ah : AH} {ds : List Deferred}
theorem leave1n {a : Act} {w : World} {f : FuncId} {caps : List AV} {cs : List Value} {u : FrameMode} (g : Good (CofD P fn n Fr R0 w0 Φ) ds af ah a w) (hu : u ≠ .run) (hc : concs caps = some cs) (hno : fn.results.toList = [])
    (h : TriD P f caps ah u (fun u' h => settle u' = .returning ∧ ∃ h', h'.Sublist h ∧ Φ (.ret (.tup [])) h')) :
    Leaves P fn a.tmps (EndR Fr R0 w0 Φ) [{ target := .fn (.func f) cs.toArray, args := #[] }] u w := by
  refine leaves_cons (f := f) (args := cs.toArray) hu ?_ ((h.out Fr w cs g.st (concs_mk hc)).mono fun e u' w' ⟨⟨v, hv⟩, ah', ⟨hset, h', hs, hΦ⟩, hst, hext, hnew⟩ => ?_)
  · simp only [invoke]
    rw [run_callFunc h.1]
    simp
  · subst hv
    simp only
    rw [hset]
    have g' := (g.next (d := none) (v := .any) (u := undef) rfl ⟨by simp [RelC, undef, Value.cells], by simp [Shape]⟩ hst hext hnew).sub hs
    exact leave0 g' (vs := []) (by rw [hno]; exact .nil) hΦ
theorem AW.retD1n {f : FuncId} {caps : List AV} {cs : List Value} (hc : concs caps = some cs) (hno : fn.results.toList = []) (h : TriD P f caps ah .returning (fun u' h => settle u' = .returning ∧ ∃ h', h'.Sublist h ∧ Φ (.ret (.tup [])) h')) :
    AW (CofD P fn n Fr R0 w0 Φ) [{ target := .fn (.func f) cs.toArray, args := #[] }] (.c .ret :: ks) af ah := AW.ret fun a w g => by
  show Leaves _ _ _ _ a.defers _ _
  rw [g.defers]; exact leave1n g (by simp) hc hno h
theorem AW.doneD1n {f : FuncId} {caps : List AV} {cs : List Value} (hc : concs caps = some cs) (hno : fn.results.toList = []) (h : TriD P f caps ah .returning (fun u' h => settle u' = .returning ∧ ∃ h', h'.Sublist h ∧ Φ (.ret (.tup [])) h')) :
    AW (CofD P fn n Fr R0 w0 Φ) [{ target := .fn (.func f) cs.toArray, args := #[] }] [] af ah := AW.done fun a w g => by
  show Leaves _ _ _ _ a.defers _ _
  rw [g.defers]; exact leave1n g (by simp) hc hno h
end
section
variable {P : Program} {af : AF} {ah : AH} {d : Option Tmp} {T : TypeId} {ps : String} {es : Array Edge} {gd : Option (Nat × Bool)}
theorem AOp.lookS_nil {α : Type} (i e : Nat) (zv : Value) {x y : Operand} {b : Nat} {g : α → AV} {A : List (ByteArray × α)} {gm : MG} {k : ByteArray} {t : TypeId} (h : lookA A k = none) (hx : aeval af x = some (.map b)) (hi : ah[i]? = some (.map b (kvW g A) gm)) (hy : aeval af y = some (.str k)) (ht : strMap P t e = true) (hz : (P.info? e).bind (·.zero) = some zv) (hag : (Shape (.val zv) zv)) :
    AOp P ⟨d, .lookup t x y false, T, ps, es, gd⟩ af ah (D (.val zv) ah) := AOp.of_pure fun S a w hfr hown => by
  obtain ⟨kt, hu, hk⟩ := mapTy_parts (strMap_eq ht)
  obtain ⟨ens, h1, _, h3, h4, _⟩ := own_map (hown _ (List.mem_of_getElem? hi))
  have hky := aeval_rel hfr hy
  obtain ⟨hmiss, _⟩ := findNow_eq hky rfl (kvW g A) ens.toList 0 (by simpa using h3) (keysOK_kvW g A) (fun j k v hj => by simpa using h4 j k v hj)
  have hr := run_findKey (P := P) (w := w) hk (hmiss (mfind_none h))
  have hc := run_checkKey hk hky rfl ens.isEmpty
  have hzero : (zeroValue e).run P w = .ok zv w := by
    cases hi' : P.info? e with
    | none => simp [hi'] at hz
    | some inf => simp only [hi', Option.bind_some] at hz; simp [zeroValue, typeInfo, hi', hz]
  refine ⟨zv, ?_, ⟨by simp [RelC], hag⟩⟩
  simp [execOp, Instr.lookup, (aeval_rel hfr hx).map, Sem.run_bind, run_underlying hu, Result.andThen_ok, run_getObj_map h1, Sem.run_pure, hc, hr, hzero]
end
structure Stk where
  b : Nat
  l : List Int
  tl : List AV
def Stk.av (t : Stk) : AV := .osl t.b (t.l.map iav).length ((t.l.map iav).length + t.tl.length)
def Stk.row (t : Stk) : Own := .row t.b (t.l.map iav ++ t.tl)
def rowsA (A : List (ByteArray × Stk)) : AH := A.map fun p => p.2.row
def envA (A : List (ByteArray × Stk)) (s : ByteArray) : List Int := match lookA A s with | some t => t.l | none => []
theorem setA_hit {α : Type} {A : List (ByteArray × α)} {k : ByteArray} {v : α} (h : lookA A k = some v) : ∃ j, A[j]? = some (k, v) ∧ ∀ u, setA A k u = A.set j (k, u) := by
  induction A with
  | nil => cases h
  | cons p A ih =>
    obtain ⟨k', w⟩ := p
    simp only [lookA] at h
    by_cases e : k = k'
    · rw [if_pos e] at h
      subst e
      obtain rfl := Option.some.inj h
      exact ⟨0, rfl, fun u => by simp [setA]⟩
    · rw [if_neg e] at h
      obtain ⟨j, h1, h2⟩ := ih h
      exact ⟨j + 1, by simpa using h1, fun u => by simp [setA, e, h2]⟩
theorem setA_miss {α : Type} {A : List (ByteArray × α)} {k : ByteArray} (h : lookA A k = none) (u : α) : setA A k u = A ++ [(k, u)] := by
  induction A with
  | nil => rfl
  | cons p A ih =>
    obtain ⟨k', w⟩ := p
    simp only [lookA] at h
    by_cases e : k = k'
    · rw [if_pos e] at h; cases h
    · rw [if_neg e] at h
      simp [setA, e, ih h]
theorem look_setA {α : Type} (F : List (ByteArray × α)) (k k' : ByteArray) (v : α) : lookA (setA F k v) k' = if k' = k then some v else lookA F k' := by
  induction F with
  | nil => simp only [setA, lookA]
  | cons p F ih =>
    obtain ⟨q, u⟩ := p
    rw [setA]
    by_cases e : k = q
    · subst e; rw [if_pos rfl]; simp only [lookA]; split <;> rfl
    · rw [if_neg e]; simp only [lookA, ih]
      by_cases e2 : k' = q
      · rw [if_pos e2, if_pos e2, if_neg (fun h => e (h.symm.trans e2))]
      · rw [if_neg e2, if_neg e2]
theorem rowsA_set (A : List (ByteArray × Stk)) (j : Nat) (k : ByteArray) (t : Stk) : rowsA (A.set j (k, t)) = (rowsA A).set j t.row := by simp [rowsA, List.map_set]
theorem rowsA_get {A : List (ByteArray × Stk)} {j : Nat} {k : ByteArray} {t : Stk} (h : A[j]? = some (k, t)) : (rowsA A)[j]? = some t.row := by simp [rowsA, h]
theorem sel_skip : ∀ (a b : AH) (m : List Bool), sel (List.replicate a.length false ++ m) (a ++ b) = sel m b ∧ uns (List.replicate a.length false ++ m) (a ++ b) = a ++ uns m b
  | [], b, m => ⟨rfl, rfl⟩
  | x :: a, b, m => by
    have h := sel_skip a b m
    simp only [List.length_cons, List.replicate_succ, List.cons_append, sel, uns, h.1, h.2, and_self]
theorem Tri.front {P : Program} {f : FuncId} {args : List AV} {b : AH} {Φ : AEnd → AH → Prop} (h : Tri P f args b Φ) (a : AH) : Tri P f args (a ++ b) (fun x h => ∃ h1, Φ x h1 ∧ h = h1 ++ a) := by
  have h0 := sel_all b []
  rw [List.append_nil] at h0
  have h1 := sel_skip a b (List.replicate b.length true)
  rw [h0.1, h0.2, List.append_nil] at h1
  have h2 := Tri.frame (ah := a ++ b) (List.replicate a.length false ++ List.replicate b.length true) (by rw [h1.1]; exact h)
  rw [h1.2] at h2
  exact h2
end Go.SX
namespace Go.SX
open Go.RowKit
set_option linter.unusedVariables false
set_option linter.unusedSimpArgs false
section
variable {P : Program} {af : AF} {ah : AH} {d : Option Tmp} {T : TypeId} {ps : String} {es : Array Edge} {gd : Option (Nat × Bool)}
theorem eq_slice_nilIn (w : World) (d : Nat) (t e : TypeId) (a : Option Addr) (l c : Nat) (h : P.underlying t = some (.slice e)) : (Op.equalIn (d + 1) t (.slice a l c) (.slice none 0 0)).run P w = .ok a.isNone w := by
  cases a <;> simp [Op.equalIn, run_underlying h]
theorem eq_slice_nil (w : World) (t e : TypeId) (a : Option Addr) (l c : Nat) (h : P.underlying t = some (.slice e)) : (Op.equal t (.slice a l c) (.slice none 0 0)).run P w = .ok a.isNone w := eq_slice_nilIn w 9999 t e a l c h
theorem AOp.slice_nil {x : Operand} {xs : List AV} {t yT : TypeId} (hx : aeval af x = some (.sl xs)) (ht : isSlTy P t = true) :
    AOp P ⟨d, .binOp .eql t x (.const (.slice none 0 0)) yT, T, ps, es, gd⟩ af ah (fun r h => ∃ B : Bool, (xs ≠ [] → B = false) ∧ r = .ret (.bool B) ∧ h = ah) := .mk fun Fr a w hst hf => by
  obtain ⟨A, c, hu, h1, h2, h3⟩ := srcOf_rel (aeval_rel hf hx) rfl
  obtain ⟨e, hut⟩ : ∃ e, P.underlying t = some (.slice e) := by
    unfold isSlTy at ht
    split at ht
    · exact ⟨_, by assumption⟩
    · cases ht
  have hc : a.eval (.const (.slice none 0 0)) = .slice none 0 0 := rfl
  have hrun : (execOp a.eval ⟨d, .binOp .eql t x (.const (.slice none 0 0)) yT, T, ps, es, gd⟩).run P w = .ok (.value (.bool A.isNone)) w := by
    simp only [execOp, hu, hc]
    simp [eqGuard, binOp, eq_slice_nil w t e A _ c hut]
  rw [hrun]
  refine ⟨_, _, ⟨A.isNone, fun hne => ?_, rfl, rfl⟩, ⟨_, rfl, mk_bool⟩, hst, Ext.refl _ _, fun _ _ _ h => h⟩
  obtain ⟨b, o, sz, rfl, _⟩ := h3 hne
  rfl
end
section
variable {C : Cx} {ds : List Deferred} {ks : List K} {af : AF} {ah : AH} {ops : Array Oper} {rest : List Oper}
theorem AL.slice_nil {dd : Nat} {x : Operand} {xs : List AV} {t yT T : TypeId} {ps : String} {es : Array Edge} (hx : aeval af x = some (.sl xs)) (ht : isSlTy C.P t = true) (hn : Nat.blt dd C.n = true)
    (hk : ∀ B : Bool, (xs ≠ [] → B = false) → AL C ds ks ops rest ((dd, .bool B) :: af) ah) : AL C ds ks ops (⟨some dd, .binOp .eql t x (.const (.slice none 0 0)) yT, T, ps, es, none⟩ :: rest) af ah :=
  AL.step rfl hn (AOp.slice_nil hx ht) (by rintro _ _ ⟨B, h, e, rfl⟩; injection e with e; subst e; exact hk B h) (by rintro _ _ ⟨B, _, e, _⟩; cases e)
theorem AL.lit_own {t T e sz k dd : Nat} {parts : Array (Nat × Operand)} {xs : List Operand} {us : List AV} {ps : String} {es : Array Edge} (ht : litTy C.P t = some (e, sz)) (hp : litOps 0 parts.toList = some xs) (hx : aevals af xs = some us) (hn : us.length = k) (hsz : ∀ v ∈ us, v.size = sz) (hb : k * sz ≤ 16777216) (hd : Nat.blt dd C.n = true)
    (hk : ∀ b, AL C ds ks ops rest ((dd, .slt us (some b) k) :: af) (.tail (some b) k k sz :: ah)) : AL C ds ks ops (⟨some dd, .buildSlice t k parts, T, ps, es, none⟩ :: rest) af ah :=
  AL.step rfl hd (AOp.lit_own ht hp hx hn hsz hb) (by rintro _ _ ⟨b, e, rfl⟩; injection e with e; subst e; exact hk b) (by rintro _ _ ⟨b, e, _⟩; cases e)
end
section
variable {P : Program} {af : AF} {ah : AH} {d : Option Tmp} {T : TypeId} {ps : String} {es : Array Edge} {gd : Option (Nat × Bool)}
theorem AOp.store_nil {x : Operand} {b off : Nat} {c c' : AV} {t : TypeId} {i : Nat} (hx : aeval af x = some (.ref b off)) (hi : ah[i]? = some (.box b c)) (hs : c.upd off (.slt [] none 0) = some c')
    (ht : tkind P t = some (false, 1)) : AOp P ⟨d, .store t x (.const (.slice none 0 0)), T, ps, es, gd⟩ af ah (fun e h => (∃ u, e = .ret u) ∧ h = ah.set i (.box b c')) := .mk fun Fr a w hst hf => by
  have hr : Rel (Sof Fr ah) w (.slt [] none 0) (a.eval (.const (.slice none 0 0))) := rel_nil
  obtain ⟨cs, tt, hh, hrc⟩ := hst.rel _ (List.mem_of_getElem? hi)
  obtain ⟨hu, hl⟩ := RelC.upd c cs.toList off _ c' _ hrc hs hr.1
  have hsz := RelC.size _ _ hr.1
  obtain ⟨w', h1, h2, h3⟩ := run_storeVar (P := P) (b := b) (o := off) (x := .slt [] none 0) ht hr rfl hh (by simp at hl hsz; omega)
  have hrun : (execOp a.eval ⟨d, .store t x (.const (.slice none 0 0)), T, ps, es, gd⟩).run P w = .ok .skip w' := by
    simp [execOp, (aeval_rel hf hx).ref, Instr.storeAt, Instr.sureAddr, h1]
  rw [hrun]
  obtain ⟨k1, k2, k3⟩ := hst.update (x' := .box b c') hi h3 (fun k hk => .inl hk) (fun _ _ _ h => h)
    (fun k hk => by simp only [Own.blk, Option.some.injEq] at hk; subst hk; exact Nat.lt_of_lt_of_le (hst.lt _ (List.mem_of_getElem? hi) b rfl) h3.size) (fun m => ⟨_, tt, h2, by simpa using RelC.mv m _ _ hu⟩)
  exact ⟨.ret .any, _, ⟨⟨_, rfl⟩, rfl⟩, ⟨_, rfl, by simp [RelC, undef, Value.cells], by simp [Shape]⟩, k1, k2, k3⟩
end
def Wk (c c' : AV) : Prop := ∀ (S : Rg) (w : World) (cs : List Value), RelC S w c cs → RelC S w c' cs
def Wks (c c' : List AV) : Prop := ∀ (S : Rg) (w : World) (cs : List Value), RelCs S w c cs → RelCs S w c' cs
theorem Wk.refl (c : AV) : Wk c c := fun _ _ _ h => h
theorem Wk.slt {xs : List AV} {b : Option Nat} {c : Nat} : Wk (.slt xs b c) (.sl xs) := fun S w cs h => slt_sl _ _ _ h
theorem Wks.nil : Wks [] [] := fun _ _ _ h => h
theorem Wks.cons {x y : AV} {xs ys : List AV} (h : Wk x y) (k : Wks xs ys) : Wks (x :: xs) (y :: ys) := fun S w cs hr => by
  rw [RelCs] at hr ⊢
  obtain ⟨c1, c2, e, h1, h2⟩ := hr
  exact ⟨c1, c2, e, h S w _ h1, k S w _ h2⟩
theorem Wk.st {xs ys : List AV} (h : Wks xs ys) : Wk (.st xs) (.st ys) := fun S w cs hr => by
  rw [RelC] at hr ⊢
  exact h S w cs hr
section
variable {C : Cx} {ds : List Deferred} {ks : List K} {af : AF} {ah : AH} {ops : Array Oper} {rest : List Oper}
theorem AL.store_nil (i : Nat) {x : Operand} {b off : Nat} {c c' : AV} {t T : TypeId} {ps : String} {es : Array Edge} (hx : aeval af x = some (.ref b off)) (hi : ah[i]? = some (.box b c)) (hs : c.upd off (.slt [] none 0) = some c')
    (ht : tkind C.P t = some (false, 1)) (hk : AL C ds ks ops rest af (ah.set i (.box b c'))) : AL C ds ks ops (⟨none, .store t x (.const (.slice none 0 0)), T, ps, es, none⟩ :: rest) af ah :=
  AL.step rfl rfl (AOp.store_nil hx hi hs ht) (by rintro _ _ ⟨⟨u, e⟩, rfl⟩; exact hk) (by rintro _ _ ⟨⟨u, e⟩, _⟩; cases e)
theorem AW.weak_box (i : Nat) {b : Nat} {c : AV} (c' : AV) (hi : ah[i]? = some (.box b c)) (hw : Wk c c') (k : AW C ds ks af (ah.set i (.box b c'))) : AW C ds ks af ah := .mk fun a w g => by
  obtain ⟨cs, tt, hh, hrc⟩ := g.st.rel _ (List.mem_of_getElem? hi)
  obtain ⟨k1, k2, k3⟩ := g.st.update (x' := .box b c') hi (Ext.refl _ w) (fun k hk => .inl hk) (fun _ _ _ h => h)
    (fun k hk => by simp only [Own.blk, Option.some.injEq] at hk; subst hk; exact g.st.lt _ (List.mem_of_getElem? hi) b rfl) (fun m => ⟨cs, tt, hh, RelC.mv m _ _ (hw _ _ _ hrc)⟩)
  exact k.out a w (g.next (d := none) (v := .any) (u := undef) rfl ⟨by simp [RelC, undef, Value.cells], by simp [Shape]⟩ k1 k2 k3)
end
end Go.SX
namespace Go.SX
open Go.RowKit
set_option linter.unusedVariables false
set_option linter.unusedSimpArgs false
def bytesAV (s : ByteArray) : List AV := s.data.toList.map fun b => .int .u8 b.toNat
theorem bytesAV_length (s : ByteArray) : (bytesAV s).length = s.size := by simp [bytesAV]
theorem bytesAV_rel {S : Rg} {w : World} {s : ByteArray} {j : Nat} {x : AV} (h : (bytesAV s)[j]? = some x) : ∃ v, (Lib.strCells s)[j]? = some v ∧ RelC S w x [v] := by
  simp only [bytesAV, List.getElem?_map, Option.map_eq_some_iff] at h
  obtain ⟨b, hb, rfl⟩ := h
  exact ⟨.int .u8 b.toNat, by simp only [Lib.strCells, List.getElem?_map, hb, Option.map_some], by simp [RelC]⟩
def byteTy (P : Program) (T : TypeId) : Option TypeId := match P.underlying T with
  | some (.slice e) => match P.info? e with
    | some i => match i.zero with
      | some z => match z.cells.toList with
        | [.int .u8 0] => bif Nat.beq i.size 1 && Nat.beq i.bytes 1 then some e else none
        | _ => none
      | none => none
    | none => none
  | _ => none
theorem byteTy_parts {P : Program} {T e : TypeId} (h : byteTy P T = some e) : P.underlying T = some (.slice e) ∧ ∃ i z, P.info? e = some i ∧ i.zero = some z ∧ z.cells = #[.int .u8 0] ∧ i.size = 1 ∧ i.bytes = 1 := by
  unfold byteTy at h
  split at h
  · rename_i e' hu
    split at h
    · rename_i i hi
      split at h
      · rename_i z hz
        split at h
        · rename_i hc
          cases hb : Nat.beq i.size 1 && Nat.beq i.bytes 1 with
          | false => rw [hb] at h; cases h
          | true =>
            rw [hb] at h
            simp only [cond_true, Option.some.injEq] at h
            subst h
            simp only [Bool.and_eq_true, nbeq_iff] at hb
            exact ⟨hu, i, z, hi, hz, Array.ext' hc, hb.1, hb.2⟩
        · cases h
      · cases h
    · cases h
  · cases h
def strTyB (P : Program) (T : TypeId) : Bool := match P.underlying T with | some .string => true | _ => false
theorem strTyB_eq {P : Program} {T : TypeId} (h : strTyB P T = true) : P.underlying T = some .string := by
  unfold strTyB at h
  split at h
  · assumption
  · cases h
section
variable {P : Program} {af : AF} {ah : AH} {d : Option Tmp} {T : TypeId} {ps : String} {es : Array Edge} {gd : Option (Nat × Bool)}
theorem AOp.alloc_t {t : TypeId} {zs : List AV} (ht : zeroCells P t = AV.flats zs) (hz : (AV.flats zs).isSome = true) (h1 : ∀ x ∈ zs, x.size = 1) :
    AOp P ⟨d, .alloc t, T, ps, es, gd⟩ af ah (fun e h => ∃ b, e = .ret (.ref b 0) ∧ h = .trow b t zs :: ah) := .mk fun Fr a w hst hf => by
  cases hi : P.info? t with
  | none => simp [zeroCells, hi] at ht; rw [← ht] at hz; cases hz
  | some i =>
    cases hzz : i.zero with
    | none => simp [zeroCells, hi, hzz] at ht; rw [← ht] at hz; cases hz
    | some v =>
      simp only [zeroCells, hi, hzz, Option.bind_some, Option.map_some] at ht
      rw [run_alloc_op hi hzz]
      have hx' : Ext (fun _ _ => False) w (w.alloc (.cells v.cells t)) := Ext.alloc _ _ _
      obtain ⟨k1, k2, k3⟩ := hst.cons (x := .trow w.heap.size t zs) (b := w.heap.size) rfl (Nat.le_refl _) (by simp) hx' (fun m => by
        have hr := RelCs.flat (S := Sof Fr (.trow w.heap.size t zs :: ah)) (w := w.alloc (.cells v.cells t)) zs _ ht.symm
        have hl := RelCs.size zs _ hr
        rw [sizes_one h1] at hl
        refine ⟨v.cells, heap_alloc_new w _, by simpa using hl, fun j x hj => ?_⟩
        obtain ⟨u, hu, hru⟩ := RelCs.get1 hr h1 j x hj
        exact ⟨u, by simpa using hu, hru⟩)
      exact ⟨_, _, ⟨_, rfl, rfl⟩, ⟨_, rfl, mk_ref⟩, k1, k2, k3⟩
theorem AOp.load_tcell (i : Nat) {x : Operand} {b off : Nat} {xs : List AV} {v : AV} {t bt : TypeId} (hx : aeval af x = some (.ref b off)) (hi : ah[i]? = some (.trow b bt xs)) (hs : xs[off]? = some v) (hv : (!v.isAny && Nat.beq v.size 1) = true)
    (ht : tkind P t = some (v.isSt, v.size)) : AOp P ⟨d, .load t x, T, ps, es, gd⟩ af ah (D v ah) := AOp.of_pure fun S a w hf ho => by
  simp only [Bool.and_eq_true, Bool.not_eq_true', nbeq_iff] at hv
  obtain ⟨cs, hh, _, hr⟩ := ho _ (List.mem_of_getElem? hi)
  obtain ⟨c, hc, hd⟩ := hr off v hs
  obtain ⟨u, h1, h2⟩ := run_loadVar (P := P) (w := w) (b := b) (o := off) hv.1 ht hd (fun j u hj => by
    cases j with
    | zero =>
      simp only [List.getElem?_cons_zero, Option.some.injEq] at hj; subst hj
      rw [cell_of_row w b _ cs bt (0, 0) hh]; exact hc
    | succ j => simp at hj)
  exact ⟨u, by simp [execOp, (aeval_rel hf hx).ref, Instr.loadAt, Instr.sureAddr, h1], h2⟩
theorem St.laid_t {P : Program} {Fr : Rg} {w : World} (hst : St Fr ah w) {b bt i o : Nat} {xs ys : List AV} {ds : List Value} (hi : ah[i]? = some (.trow b bt xs)) (ho : o + ys.length ≤ xs.length) (hd : ds.length = ys.length) (h1 : ∀ v ∈ ds, v.oneCell' = true)
    (hy : ∀ (i : Nat) y, ys[i]? = some y → ∃ v, ds[i]? = some v ∧ RelC (Sof Fr ah) w y [v]) :
    ∃ w', (storeCells ⟨b, o, none⟩ ds 0).run P w = .ok () w' ∧ St Fr (ah.set i (.trow b bt (xs.take o ++ ys ++ xs.drop (o + ys.length)))) w' ∧ Ext (reg ah) w w' ∧ ∀ k o', k < w.heap.size → reg (ah.set i (.trow b bt (xs.take o ++ ys ++ xs.drop (o + ys.length)))) k o' → reg ah k o' := by
  obtain ⟨cs, hh, hsz, hr⟩ := hst.rel _ (List.mem_of_getElem? hi)
  obtain ⟨w', r1, r2, r3, r4, e1, e2, e3⟩ := run_storeCells (P := P) (b := b) (t := bt) o ds 0 w cs hh (by omega) h1
  have hext : Ext (Own.trow b bt xs).reg w w' := ⟨e1, e2, e3, by omega, fun k hk hn => r3 k (fun e => hn 0 e), fun a v hc hn => (World.cell?_of_block (r3 a.block (fun e => hn e))).trans hc⟩
  obtain ⟨k1, k2, k3⟩ := hst.update (x' := .trow b bt (xs.take o ++ ys ++ xs.drop (o + ys.length))) hi hext (fun k hk => .inl hk) (fun _ _ _ h => h)
    (fun k hk => by simp only [Own.blk, Option.some.injEq] at hk; subst hk; exact Nat.lt_of_lt_of_le (hst.lt _ (List.mem_of_getElem? hi) b rfl) hext.size) (fun m => by
      refine ⟨_, r2, ?_, fun j x hx => ?_⟩
      · have hl : (lay cs.toList (o + 0) ds).length = cs.size := by
          simp only [lay, List.length_append, List.length_take, List.length_drop, Array.length_toList]; omega
        simp only [List.size_toArray, hl, List.length_append, List.length_take, List.length_drop]; omega
      · obtain ⟨v, hv, hrv⟩ := row_lay (S := Sof Fr ah) (w := w) hr (by omega) hd hy j x hx (by omega)
        exact ⟨v, hv, RelC.mv m _ _ hrv⟩)
  exact ⟨w', r1, k1, k2, k3⟩
theorem AOp.store_tcell {x y : Operand} {b bt off : Nat} {xs : List AV} {v : AV} {t : TypeId} {i : Nat} {g : Bool} (hx : aeval af x = some (.ref b off)) (hy : aeval af y = some v) (hi : ah[i]? = some (.trow b bt xs)) (hs : off < xs.length) (hok : v.cellOK = true) (hz : v.size = 1)
    (ht : tkind P t = some (g, v.size)) : AOp P ⟨d, .store t x y, T, ps, es, gd⟩ af ah (fun e h => (∃ u, e = .ret u) ∧ h = ah.set i (.trow b bt (xs.set off v))) := .mk fun Fr a w hst hf => by
  have hr := aeval_rel hf hy
  have hsz := RelC.size v _ hr.1
  obtain ⟨c, hc⟩ : ∃ c, (a.eval y).cells.toList = [c] := by
    match h : (a.eval y).cells.toList, (show (a.eval y).cells.toList.length = 1 by omega) with
    | [c], _ => exact ⟨c, rfl⟩
  obtain ⟨w', r1, k1, k2, k3⟩ := St.laid_t hst (P := P) (ys := [v]) (ds := [c]) (o := off) hi (by simp; omega) rfl (fun u hu => RelC.cellOK v _ hr.1 hok u (by rw [hc]; exact hu)) (fun j y hj => by
    cases j with
    | zero => simp only [List.getElem?_cons_zero, Option.some.injEq] at hj; subst hj; exact ⟨c, rfl, hc ▸ hr.1⟩
    | succ j => simp at hj)
  rw [set_eq hs] at k1 k3
  have hrun : (execOp a.eval ⟨d, .store t x y, T, ps, es, gd⟩).run P w = .ok .skip w' := by
    have : (storeVar t ⟨b, off, none⟩ (a.eval y)).run P w = .ok () w' := by
      unfold storeVar
      simp only [Sem.run_bind, run_sizeOf ht, Result.andThen_ok]
      rw [if_neg (by simp at hsz; simp [hsz]), hc]
      exact r1
    simp [execOp, (aeval_rel hf hx).ref, Instr.storeAt, Instr.sureAddr, this]
  rw [hrun]
  exact ⟨.ret .any, _, ⟨⟨_, rfl⟩, rfl⟩, ⟨_, rfl, by simp [RelC, undef, Value.cells], by simp [Shape]⟩, k1, k2, k3⟩
def arrE (P : Program) (T : TypeId) : Option (Nat × TypeId) := match P.underlying T with | some (.array n e) => some (n, e) | _ => none
theorem arrE_eq {P : Program} {t e : TypeId} {n : Nat} (he : arrE P t = some (n, e)) : P.underlying t = some (.array n e) := by
  unfold arrE at he
  split at he
  · rename_i n' e' h
    simp only [Option.some.injEq, Prod.mk.injEq] at he
    rw [h, he.1, he.2]
  · cases he
theorem AOp.index_arr {x y : Operand} {fs : List AV} {s : ByteArray} {t e : TypeId} {k : IntKind} {i : Int} {n : Nat} (hx : aeval af x = some (.st fs)) (hy : aeval af y = some (.int k i)) (h0 : 0 ≤ i) (h1 : i < n) (hv : fs[i.toNat]? = some (.str s))
    (he : arrE P t = some (n, e)) (hk : tkind P e = some (false, 1)) (ho : AV.sizes (fs.take i.toNat) = i.toNat) : AOp P ⟨d, .index t x y, T, ps, es, gd⟩ af ah (D (.str s) ah) :=
  AOp.of_pure fun S a w hfr _ => by
    have hu := arrE_eq he
    obtain ⟨hr, cs, hcs⟩ := aeval_rel hfr hx
    simp only [hcs, Value.cells, RelC] at hr
    obtain ⟨c1, e1, e2⟩ := hr.field i.toNat _ hv
    rw [ho] at e2
    simp only [RelC] at e1
    subst e1
    have hc := e2 0 _ rfl
    simp only [Nat.add_zero, Array.getElem?_toList] at hc
    have hpart : (Go.part e cs (i.toNat * 1)).run P w = .ok (.string s) w := by
      unfold Go.part
      simp only [Sem.run_bind, run_isAgg hk, Result.andThen_ok, Nat.mul_one]
      simp [hc]
    exact ⟨.string s, by simp only [execOp, hcs, (aeval_rel hfr hy).int, Instr.index, Sem.run_bind, asIntOf, Sem.run_pure, Result.andThen_ok, run_underlying hu, h0, h1, and_self, if_true, run_sizeOf hk, hpart], mk_str⟩
theorem AOp.index_arrA {x y : Operand} {fs gs : List AV} {t e : TypeId} {k : IntKind} {i : Int} {n : Nat} (hx : aeval af x = some (.st fs)) (hy : aeval af y = some (.int k i)) (h0 : 0 ≤ i) (h1 : i < n) (hv : fs[i.toNat]? = some (.st gs))
    (he : arrE P t = some (n, e)) (hk : tkind P e = some (true, AV.sizes gs)) (ho : AV.sizes (fs.take i.toNat) = i.toNat * AV.sizes gs) : AOp P ⟨d, .index t x y, T, ps, es, gd⟩ af ah (D (.st gs) ah) :=
  AOp.of_pure fun S a w hfr _ => by
    have hu := arrE_eq he
    obtain ⟨hr, cs, hcs⟩ := aeval_rel hfr hx
    simp only [hcs, Value.cells, RelC] at hr
    obtain ⟨c1, e1, e2⟩ := hr.field i.toNat _ hv
    have hl := RelC.size _ c1 e1
    simp only [AV.size] at hl
    rw [ho] at e2
    have hpart : (Go.part e cs (i.toNat * AV.sizes gs)).run P w = .ok (.agg (cs.extract (i.toNat * AV.sizes gs) (i.toNat * AV.sizes gs + AV.sizes gs))) w := by
      unfold Go.part
      simp only [Sem.run_bind, run_isAgg hk, Result.andThen_ok]
      simp [run_sizeOf hk]
    refine ⟨.agg (cs.extract (i.toNat * AV.sizes gs) (i.toNat * AV.sizes gs + AV.sizes gs)), by simp only [execOp, hcs, (aeval_rel hfr hy).int, Instr.index, Sem.run_bind, asIntOf, Sem.run_pure, Result.andThen_ok, run_underlying hu, h0, h1, and_self, if_true, run_sizeOf hk, hpart], ?_, by simp [Shape]⟩
    have hx : (cs.extract (i.toNat * AV.sizes gs) (i.toNat * AV.sizes gs + AV.sizes gs)).toList = c1 := by
      apply List.ext_getElem?
      intro j
      rw [Array.toList_extract, List.extract_eq_take_drop, List.getElem?_take, List.getElem?_drop]
      by_cases hj : j < AV.sizes gs
      · rw [if_pos (by omega)]
        obtain ⟨u, hu⟩ : ∃ u, c1[j]? = some u := ⟨c1[j]'(by omega), List.getElem?_eq_getElem _⟩
        rw [hu, e2 j u hu]
      · rw [if_neg (by omega), List.getElem?_eq_none (by omega)]
    simp only [Value.cells]
    rw [hx]
    exact e1
def ptrTo (P : Program) (T : TypeId) (u : TypeId) : Bool := match P.underlying T with | some (.pointer v) => v == u | _ => false
theorem ptrTo_eq {P : Program} {T u : TypeId} (h : ptrTo P T u = true) : P.underlying T = some (.pointer u) := by
  unfold ptrTo at h
  split at h
  · rename_i v hv
    simp only [beq_iff_eq] at h
    rw [hv, h]
  · cases h
theorem eq_ptr_nil (w : World) (t u : TypeId) (p : Option Addr) (h : P.underlying t = some (.pointer u)) : (Op.equal t (.pointer p) (.pointer none)).run P w = .ok p.isNone w := by
  have hp : P.pointee t = u := by simp [Program.pointee, h]
  exact run_equal_pointer_nil w t p (by rw [hp]; exact h)
theorem AOp.ptr_nil_ref (u : TypeId) {x : Operand} {b o : Nat} {t yT : TypeId} (hx : aeval af x = some (.ref b o)) (ht : ptrTo P t u = true) : AOp P ⟨d, .binOp .eql t x (.const (.pointer none)) yT, T, ps, es, gd⟩ af ah (D (.bool false) ah) :=
  AOp.of_pure fun S a w hf _ => ⟨.bool false, by
    have hu := (aeval_rel hf hx).ref
    have hc : a.eval (.const (.pointer none)) = .pointer none := rfl
    simp only [execOp, hu, hc]
    simp [eqGuard, binOp, eq_ptr_nil w t u _ (ptrTo_eq ht)], mk_bool⟩
theorem AOp.ptr_nil_nil (u : TypeId) {x : Operand} {t yT : TypeId} (hx : aeval af x = some (.val (.pointer none))) (ht : ptrTo P t u = true) : AOp P ⟨d, .binOp .eql t x (.const (.pointer none)) yT, T, ps, es, gd⟩ af ah (D (.bool true) ah) :=
  AOp.of_pure fun S a w hf _ => ⟨.bool true, by
    have hu := (aeval_rel hf hx).val
    have hc : a.eval (.const (.pointer none)) = .pointer none := rfl
    simp only [execOp, hu, hc]
    simp [eqGuard, binOp, eq_ptr_nil w t u _ (ptrTo_eq ht)], mk_bool⟩
theorem AOp.ptr_ne_self (u : TypeId) {x y : Operand} {b o : Nat} {t yT : TypeId} (hx : aeval af x = some (.ref b o)) (hy : aeval af y = some (.ref b o)) (ht : ptrTo P t u = true) (hi : (P.info? u).isSome = true) : AOp P ⟨d, .binOp .neq t x y yT, T, ps, es, gd⟩ af ah (D (.bool false) ah) :=
  AOp.of_pure fun S a w hf _ => ⟨.bool false, by
    obtain ⟨j, hj⟩ := Option.isSome_iff_exists.1 hi
    simp only [execOp, (aeval_rel hf hx).ref, (aeval_rel hf hy).ref]
    have h := Lib.run_neq_ptr_same w ⟨b, o, none⟩ (ptrTo_eq ht) hj
    simp [eqGuard, h], mk_bool⟩
def unsB (P : Program) (T : TypeId) : Bool := match P.underlying T with | some .unsafePointer => true | _ => false
theorem unsB_eq {P : Program} {T : TypeId} (h : unsB P T = true) : P.underlying T = some .unsafePointer := by
  unfold unsB at h
  split at h
  · assumption
  · cases h
theorem AOp.conv_un (i u : TypeId) {x : Operand} {b bt : Nat} {xs : List AV} {src dst : TypeId} (hx : aeval af x = some (.ref b 0)) (hi : ah[i]? = some (.trow b bt xs)) (hs : ptrTo P src u = true) (hd : unsB P dst = true) (hsz : (match P.info? u with | some j => !Nat.beq j.size 0 | none => false) = true) (hn : 0 < xs.length) :
    AOp P ⟨d, .convert src dst x, T, ps, es, gd⟩ af ah (D (.ref b 0) ah) := AOp.of_pure fun S a w hf ho => by
  obtain ⟨cs, hh, hl, _⟩ := ho _ (List.mem_of_getElem? hi)
  have hsh : w.shape? b = some (bt, cs.size) := by simp [World.shape?, hh]
  cases hj : P.info? u with
  | none => rw [hj] at hsz; cases hsz
  | some j =>
    rw [hj] at hsz
    have hj0 : j.size ≠ 0 := fun h => by simp only [h] at hsz; cases hsz
    have h := Lib.run_to_unsafe w ⟨b, 0, none⟩ (ptrTo_eq hs) (unsB_eq hd) hj hj0 hsh (show 0 < cs.size by omega)
    exact ⟨_, by simp only [execOp, (aeval_rel hf hx).ref, h, Sem.run_bind, Result.andThen_ok]; simp, mk_ref⟩
theorem AOp.conv_from (i : Nat) {x : Operand} {b bt : Nat} {xs : List AV} {src dst : TypeId} (hx : aeval af x = some (.ref b 0)) (hi : ah[i]? = some (.trow b bt xs)) (hs : unsB P src = true) (hd : ptrTo P dst bt = true) (hu : (P.info? bt).isSome = true) (hl : liesAt P P.depth bt (xs.length / P.cellsOf bt) 0 bt 1 = true) :
    AOp P ⟨d, .convert src dst x, T, ps, es, gd⟩ af ah (D (.ref b 0) ah) := AOp.of_pure fun S a w hf ho => by
  obtain ⟨cs, hh, hl', _⟩ := ho _ (List.mem_of_getElem? hi)
  have hsh : w.shape? b = some (bt, cs.size) := by simp [World.shape?, hh]
  obtain ⟨j, hj⟩ := Option.isSome_iff_exists.1 hu
  have h := Lib.run_from_unsafe w ⟨b, 0, none⟩ (unsB_eq hs) (ptrTo_eq hd) hj hsh (by rw [hl']; exact hl)
  exact ⟨_, by simp only [execOp, (aeval_rel hf hx).ref, h, Sem.run_bind, Result.andThen_ok]; simp, mk_ref⟩
theorem AOp.call_same {f : FuncId} {fn : Func} {y x : Operand} {tys : Array TypeId} {v : AV} (hy : aeval af y = some (.fn f [])) (hx : aeval af x = some v) (hf : P.funcs[f]? = some fn) (hname : (fn.name == "runtime.NumGoroutine") = false) (hb : fn.body.isNone = true) (hn : Extern.findNext fn = none) (he : Extern.find fn = some Extern.AbiNoEscape.same) :
    AOp P ⟨d, .call ⟨.value y, #[x], tys⟩, T, ps, es, gd⟩ af ah (D v ah) := AOp.of_pure fun S a w hfr _ => by
  obtain ⟨vs, hv, hc⟩ := (aeval_rel hfr hy).fn
  have hvs : vs = [] := by cases vs with | nil => rfl | cons _ _ => simp [RelVs] at hc
  subst hvs
  have hr := aeval_rel hfr hx
  refine ⟨a.eval x, ?_, hr⟩
  simp [execOp, resolve, hv, Deferred.ofValue, invoke, run_callFunc_extern hf hname hb hn he, Lib.run_noEscape]
theorem AOp.append_str {x y : Operand} {g i e : Nat} {us tl : List AV} {s : ByteArray} {t t2 : TypeId} (hx : aeval af x = some (.osl g us.length (us.length + tl.length))) (hi : ah[i]? = some (.trow g e (us ++ tl))) (hy : aeval af y = some (.str s))
    (ht : byteTy P t = some e) (ht2 : strTyB P t2 = true) (hb : us.length + s.size ≤ 140737488355328) :
    AOp P ⟨d, .call ⟨.builtin .append, #[x, y], #[t, t2]⟩, T, ps, es, gd⟩ af ah (fun r h => ∃ g' tl', r = .ret (.osl g' (us ++ bytesAV s).length ((us ++ bytesAV s).length + tl'.length)) ∧ h = ah.set i (.trow g' e (us ++ bytesAV s ++ tl'))) := .mk fun Fr a w hst hf => by
  obtain ⟨hu, ii, z, hii, hz, hzc, hs1, hb1⟩ := byteTy_parts ht
  obtain ⟨hux, hl1, hl2⟩ := (aeval_rel hf hx).osl
  have huy := (aeval_rel hf hy).str
  obtain ⟨cs, hh, hsz, hr⟩ := hst.rel _ (List.mem_of_getElem? hi)
  have hsz' : cs.size = us.length + tl.length := by rw [hsz, List.length_append]
  have hbl := bytesAV_length s
  have e3 : (us ++ bytesAV s).length = us.length + s.size := by rw [List.length_append, hbl]
  by_cases hroom : us.length + s.size ≤ us.length + tl.length
  · have hrun := Lib.run_append_room_string (P := P) w t t2 T e ii hu (strTyB_eq ht2) hii hs1 g us.length (us.length + tl.length) cs hh s hroom (by omega)
    rw [exec_append hux huy hrun]
    simp only [Result.andThen_ok]
    generalize hC : (cs.toList.take us.length ++ Lib.strCells s ++ cs.toList.drop (us.length + s.size)).toArray = C at *
    have hcs : C = (lay cs.toList us.length (Lib.strCells s)).toArray := by rw [← hC, lay, Lib.strCells_length]
    have hg := setRow_heap w g cs C e (0, 0) hh
    have hrest : ∀ k, k ≠ g → (w.setRow g C).heap[k]? = w.heap[k]? := fun k hk => by simp [World.setRow, Array.getElem?_modify, Ne.symm hk]
    have hsize : (w.setRow g C).heap.size = w.heap.size := by simp [World.setRow]
    have hext : Ext (Own.trow g e (us ++ tl)).reg w (w.setRow g C) := ⟨rfl, rfl, rfl, by omega, fun k hk hn => hrest k (fun e => hn 0 e), fun ad v hc hn => (World.cell?_of_block (hrest ad.block (fun e => hn e))).trans hc⟩
    have hCl : C.size = cs.size := by
      rw [hcs]
      simp only [lay, List.size_toArray, List.length_append, List.length_take, List.length_drop, Array.length_toList, Lib.strCells_length]; omega
    have hxs : (us ++ tl).take us.length ++ bytesAV s ++ (us ++ tl).drop (us.length + (bytesAV s).length) = us ++ bytesAV s ++ tl.drop s.size := by
      rw [List.take_left, ← List.drop_drop, List.drop_left, hbl]
    obtain ⟨k1, k2, k3⟩ := hst.update (x' := .trow g e (us ++ bytesAV s ++ tl.drop s.size)) hi hext (fun k hk => .inl hk) (fun _ _ _ h => h)
      (fun k hk => by simp only [Own.blk, Option.some.injEq] at hk; subst hk; exact Nat.lt_of_lt_of_le (hst.lt _ (List.mem_of_getElem? hi) g rfl) hext.size) (fun m => by
        refine ⟨C, hg, ?_, fun j x hx => ?_⟩
        · simp only [List.length_append, List.length_drop, hbl]; omega
        · rw [← hxs] at hx
          obtain ⟨v, hv, hrv⟩ := row_lay (S := Sof Fr ah) (w := w) (ds := Lib.strCells s) hr (by rw [hbl]; omega) (by rw [Lib.strCells_length, hbl]) (fun j y hy => bytesAV_rel hy) j x hx (by simp)
          rw [← hcs] at hv
          exact ⟨v, hv, RelC.mv m _ _ hrv⟩)
    refine ⟨.ret (.osl g (us ++ bytesAV s).length ((us ++ bytesAV s).length + (tl.drop s.size).length)), _, ⟨g, tl.drop s.size, rfl, rfl⟩, ⟨_, rfl, ?_⟩, k1, k2, k3⟩
    have e4 : (us ++ bytesAV s).length + (tl.drop s.size).length = us.length + tl.length := by rw [e3, List.length_drop]; omega
    rw [e4, e3]
    exact mk_osl hroom hl2
  · have holds : ∀ (j : Nat) v, (cs.toList.take (us.length))[j]? = some v → w.cell? ((⟨g, 0, none⟩ : Addr).add j) = some v := fun j v hj => by
      rw [addr_add, cell_of_row w g _ cs e (0, 0) hh]
      rw [List.getElem?_take] at hj
      split at hj
      · simpa using hj
      · cases hj
    have hol : (cs.toList.take us.length).length = us.length := by rw [List.length_take, show cs.toList.length = cs.size from rfl]; omega
    have hfit := growslice_fits (bytes := 1) (need := us.length + s.size) (old := us.length + tl.length) (by omega) (by omega)
    have hrun := Lib.run_append_grow_string (P := P) w t t2 T e ii z hu (strTyB_eq ht2) hii hz ⟨g, 0, none⟩ us.length (us.length + tl.length) (cs.toList.take us.length) (by rw [hol, hs1, Nat.mul_one]) holds s (by omega) (by omega) (by rw [hb1]; exact hfit)
    rw [exec_append hux huy hrun]
    simp only [Result.andThen_ok]
    have hk1 := grownCap_ge w (us.length + s.size) (us.length + tl.length) e
    have hk2 := grownCap_le_maxLen w (us.length + s.size) (us.length + tl.length) e (by unfold maxLen; omega)
    generalize grownCap w (us.length + s.size) (us.length + tl.length) e = c' at *
    generalize hC : (cs.toList.take us.length).toArray ++ (Lib.strCells s).toArray ++ Builtin.zeroCells z.cells (c' - (us.length + s.size)) = C at *
    have hCl : C.size = c' := by
      rw [← hC, hzc]
      simp only [Array.size_append, List.size_toArray, hol, Lib.strCells_length, size_zeroCells]
      simp; omega
    have hext0 : Ext (fun _ _ => False) w (w.drew.alloc (.cells C e)) :=
      ⟨rfl, rfl, rfl, by simp, fun k hk _ => Below.heap_alloc w.drew _ k hk, fun ad v hc _ => (World.cell?_alloc_lt w.drew _ ad (cell_lt hc)).trans hc⟩
    obtain ⟨k1, k2, k3⟩ := hst.update (x' := .trow w.heap.size e (us ++ bytesAV s ++ List.replicate (c' - (us.length + s.size)) .any)) hi (hext0.mono fun _ _ h => h.elim) (fun k h => .inr (by simp only [Own.blk, Option.some.injEq] at h; omega))
      (fun k o hk h => by have h' : k = w.heap.size := h; omega) (fun k h => by simp only [Own.blk, Option.some.injEq] at h; subst h; simp) (fun m => by
        refine ⟨C, heap_alloc_new w.drew _, ?_, fun j u hj => ?_⟩
        · simp only [List.length_append, List.length_replicate, hbl]; omega
        · have hjl := (List.getElem?_eq_some_iff.1 hj).1
          simp only [List.length_append, List.length_replicate, hbl] at hjl
          by_cases h1 : j < us.length
          · rw [List.append_assoc, List.getElem?_append_left h1] at hj
            obtain ⟨q, hu1, hu2⟩ := hr j u (by rw [List.getElem?_append_left h1]; exact hj)
            refine ⟨q, ?_, RelC.mv m _ _ hu2⟩
            rw [← hC, Array.append_assoc, Array.getElem?_append_left (by simp only [List.size_toArray]; omega)]
            simp only [List.getElem?_toArray]
            rw [List.getElem?_take, if_pos h1]
            simpa using hu1
          · by_cases h2 : j < us.length + s.size
            · rw [List.getElem?_append_left (by simp only [List.length_append, hbl]; omega), List.getElem?_append_right (by omega)] at hj
              obtain ⟨q, hu1, hu2⟩ := bytesAV_rel (S := Sof Fr ah) (w := w) hj
              refine ⟨q, ?_, RelC.mv m _ _ hu2⟩
              rw [← hC, Array.getElem?_append_left (by simp only [Array.size_append, List.size_toArray, hol, Lib.strCells_length]; omega), Array.getElem?_append_right (by simp only [List.size_toArray, hol]; omega)]
              simp only [List.getElem?_toArray, List.size_toArray, hol]
              exact hu1
            · rw [List.getElem?_append_right (by simp only [List.length_append, hbl]; omega), List.getElem?_replicate] at hj
              split at hj
              · obtain rfl := Option.some.inj hj
                exact ⟨C[j]'(by omega), Array.getElem?_eq_getElem _, by simp [RelC]⟩
              · cases hj)
    have e4 : (us ++ bytesAV s).length + (List.replicate (c' - (us.length + s.size)) AV.any).length = c' := by rw [e3, List.length_replicate]; omega
    refine ⟨.ret (.osl w.heap.size (us ++ bytesAV s).length ((us ++ bytesAV s).length + (List.replicate (c' - (us.length + s.size)) AV.any).length)), _, ⟨w.heap.size, _, rfl, rfl⟩, ⟨_, rfl, ?_⟩, k1, k2, k3⟩
    rw [e4, e3]
    exact mk_osl hk1 hk2
theorem AOp.append_t {x y : Operand} {g i e bytes : Nat} {us tl : List AV} {v : AV} {t t2 : TypeId} {c0 : Value} (hx : aeval af x = some (.osl g us.length (us.length + tl.length))) (hi : ah[i]? = some (.trow g e (us ++ tl))) (hy : aeval af y = some (.sl [v])) (hv : v.size = 1) (hok : AV.cellsOK [v] = true)
    (ht : rowTy P t = some (e, c0, bytes)) (ht2 : isSlTy P t2 = true) (hb : (us.length + 1) * bytes ≤ 140737488355328) (h63 : us.length + 1 ≤ 9223372036854775807) :
    AOp P ⟨d, .call ⟨.builtin .append, #[x, y], #[t, t2]⟩, T, ps, es, gd⟩ af ah (fun r h => ∃ g' tl', r = .ret (.osl g' (us ++ [v]).length ((us ++ [v]).length + tl'.length)) ∧ h = ah.set i (.trow g' e (us ++ [v] ++ tl'))) := .mk fun Fr a w hst hf => by
  have hsz1 : ∀ y ∈ [v], y.size = 1 := by intro y hy; rw [List.mem_singleton.1 hy]; exact hv
  obtain ⟨hux, hl1, hl2⟩ := (aeval_rel hf hx).osl
  obtain ⟨A2, c2, hu2, hl2', hm2, hrow2⟩ := srcOf_rel (aeval_rel hf hy) rfl
  obtain ⟨cs, hh, hsz, hr⟩ := hst.rel _ (List.mem_of_getElem? hi)
  have hsz' : cs.size = us.length + tl.length := by rw [hsz, List.length_append]
  cases tl with
  | cons t0 tl =>
    obtain ⟨news, hn1, hn2, hn3⟩ := run_first (P := P) (w' := w) (c := c2) (sz := 1) hrow2 hsz1 rfl
    have hn3' : news.length = 1 := by simpa using hn3
    have hrun := run_append_room (ty := T) (base := some ⟨g, 0, none⟩) (n := us.length) (cap := us.length + (t0 :: tl).length) (appRow ht) ht2 hn1 (by simp)
    obtain ⟨w', r1, k1, k2, k3⟩ := St.laid_t hst (P := P) (ys := [v]) (ds := news) (o := us.length) hi (by simp) hn3' (RelCs.cellOK _ news hn2 hok) (fun j y hj => RelCs.get1 hn2 hsz1 j y hj)
    have e1 : (us ++ t0 :: tl).take us.length ++ [v] ++ (us ++ t0 :: tl).drop (us.length + [v].length) = us ++ [v] ++ tl := by
      rw [List.take_left, ← List.drop_drop, List.drop_left]; rfl
    rw [e1] at k1 k3
    simp only [Nat.mul_one, addr_add, Nat.zero_add, r1, Result.andThen_ok] at hrun
    rw [exec_append hux hu2 hrun]
    simp only [Result.andThen_ok]
    refine ⟨.ret (.osl g (us ++ [v]).length ((us ++ [v]).length + tl.length)), _, ⟨g, tl, rfl, rfl⟩, ⟨_, rfl, ?_⟩, k1, k2, k3⟩
    have e2 : (us ++ [v]).length + tl.length = us.length + (t0 :: tl).length := by simp; omega
    have e3 : (us ++ [v]).length = us.length + [v].length := by simp
    rw [e2, e3]
    exact mk_osl (by simp) hl2
  | nil =>
    rw [List.append_nil] at hi hr
    rw [List.length_nil, Nat.add_zero] at hux hsz'
    obtain ⟨news, hn1, hn2, hn3⟩ := run_first (P := P) (w' := w.drew) (c := c2) (sz := 1) hrow2 hsz1 rfl
    have ho1 := row_read (P := P) (w' := w.drew) (n := us.length) (c := us.length) (sz := 1) (m := us.length) hh rfl (by omega)
    obtain ⟨c', z, hc1, hc2, hzs, hrun⟩ := run_append_grow (ty := T) (appRow ht) ht2 hn1 ho1 (by simp) (by simpa using hb) (by simpa [maxLen] using h63)
    rw [exec_append hux hu2 hrun]
    simp only [Result.andThen_ok]
    have hol : (cs.toList.take (us.length * 1)).length = us.length := by rw [List.length_take, show cs.toList.length = cs.size from rfl]; omega
    have hn3' : news.length = 1 := by simpa using hn3
    simp only [List.length_singleton] at hc1
    generalize hC : (cs.toList.take (us.length * 1)).toArray ++ news.toArray ++ Builtin.zeroCells z.cells (c' - (us.length + [v].length)) = C
    have hCl : C.size = c' := by
      rw [← hC]
      simp only [Array.size_append, List.size_toArray, size_zeroCells, hol, hn3', hzs, List.length_singleton]
      omega
    have hext0 : Ext (fun _ _ => False) w (w.drew.alloc (.cells C e)) :=
      ⟨rfl, rfl, rfl, by simp, fun k hk _ => Below.heap_alloc w.drew _ k hk, fun ad v hc _ => (World.cell?_alloc_lt w.drew _ ad (cell_lt hc)).trans hc⟩
    obtain ⟨k1, k2, k3⟩ := hst.update (x' := .trow w.heap.size e (us ++ [v] ++ List.replicate (c' - (us.length + 1)) .any)) hi (hext0.mono fun _ _ h => h.elim) (fun k h => .inr (by simp only [Own.blk, Option.some.injEq] at h; omega))
      (fun k o hk h => by have h' : k = w.heap.size := h; omega) (fun k h => by simp only [Own.blk, Option.some.injEq] at h; subst h; simp) (fun m => by
        refine ⟨C, heap_alloc_new w.drew _, ?_, fun j u hj => ?_⟩
        · simp only [List.length_append, List.length_replicate, List.length_singleton]; omega
        · have hjl := (List.getElem?_eq_some_iff.1 hj).1
          simp only [List.length_append, List.length_replicate, List.length_singleton] at hjl
          by_cases h1 : j < us.length
          · rw [List.append_assoc, List.getElem?_append_left h1] at hj
            obtain ⟨q, hu1, hu2⟩ := hr j u hj
            refine ⟨q, ?_, RelC.mv m _ _ hu2⟩
            rw [← hC, Array.append_assoc, Array.getElem?_append_left (by simp only [List.size_toArray]; omega)]
            simp only [List.getElem?_toArray]
            rw [List.getElem?_take, if_pos (by omega)]
            simpa using hu1
          · by_cases h2 : j < us.length + 1
            · rw [List.getElem?_append_left (by simp only [List.length_append, List.length_singleton]; omega), List.getElem?_append_right (by omega)] at hj
              obtain ⟨q, hu1, hu2⟩ := RelCs.get1 hn2 hsz1 _ u hj
              refine ⟨q, ?_, RelC.mv m _ _ hu2⟩
              rw [← hC, Array.getElem?_append_left (by simp only [Array.size_append, List.size_toArray]; omega), Array.getElem?_append_right (by simp only [List.size_toArray]; omega)]
              simp only [List.getElem?_toArray, List.size_toArray, hol]
              exact hu1
            · rw [List.getElem?_append_right (by simp only [List.length_append, List.length_singleton]; omega), List.getElem?_replicate] at hj
              split at hj
              · obtain rfl := Option.some.inj hj
                exact ⟨C[j]'(by omega), Array.getElem?_eq_getElem _, by simp [RelC]⟩
              · cases hj)
    have e3 : us.length + [v].length = (us ++ [v]).length := by simp
    have e4 : c' = (us ++ [v]).length + (List.replicate (c' - (us.length + 1)) AV.any).length := by simp; omega
    refine ⟨.ret (.osl w.heap.size (us ++ [v]).length ((us ++ [v]).length + (List.replicate (c' - (us.length + 1)) AV.any).length)), _, ⟨w.heap.size, _, rfl, rfl⟩, ⟨_, rfl, ?_⟩, k1, k2, k3⟩
    rw [← e4, ← e3]
    exact mk_osl (by simpa using hc1) hc2
theorem run_append_nil_string (w : World) (t u ty e : TypeId) (i : TypeInfo) (z : Value) (ht : P.underlying t = some (.slice e)) (hu : P.underlying u = some .string) (hi : P.info? e = some i) (hz : i.zero = some z)
    (s : ByteArray) (h0 : 0 < s.size) (h63 : ((s.size : Nat) : Int) ≤ 9223372036854775807) (hfit : Builtin.nextslicecap s.size 0 * i.bytes ≤ 281474976710656) :
    (Builtin.append_ #[t, u] ty #[.slice none 0 0, .string s]).run P w =
      .ok (.slice (some ⟨w.heap.size, 0, none⟩) s.size (grownCap w s.size 0 e))
        (w.drew.alloc (.cells ((Lib.strCells s).toArray ++ Builtin.zeroCells z.cells (grownCap w s.size 0 e - s.size)) e)) := by
  have hn : ¬ (s.size = 0) := by omega
  have h63' : ¬ ((9223372036854775807 : Int) < (s.size : Int)) := by omega
  have h48' : ¬ (281474976710656 < Builtin.nextslicecap s.size 0 * i.bytes) := by omega
  have hf := Lib.run_firstCells_string (P := P) w.drew i.size s
  have hfo : (Builtin.firstCells i.size 0 (.slice none 0 0)).run P w.drew = .ok #[] w.drew := by simp [Builtin.firstCells]
  simp [Builtin.append_, run_underlying ht, run_underlying hu, sizeOf, typeInfo, zeroValue, hi, hz, Builtin.lenOf, hn, h63', h48', Question.forced, hf, hfo, newRow, grownCap]
theorem AOp.append_str0 {x y : Operand} {e : Nat} {s : ByteArray} {t t2 : TypeId} (hx : aeval af x = some nilS) (hy : aeval af y = some (.str s)) (h0 : 0 < s.size)
    (ht : byteTy P t = some e) (ht2 : strTyB P t2 = true) (hb : s.size ≤ 140737488355328) :
    AOp P ⟨d, .call ⟨.builtin .append, #[x, y], #[t, t2]⟩, T, ps, es, gd⟩ af ah (fun r h => ∃ g' tl', r = .ret (.osl g' (bytesAV s).length ((bytesAV s).length + tl'.length)) ∧ h = .trow g' e (bytesAV s ++ tl') :: ah) := .mk fun Fr a w hst hf => by
  obtain ⟨hu, ii, z, hii, hz, hzc, hs1, hb1⟩ := byteTy_parts ht
  have hux := (aeval_rel hf hx).val
  have huy := (aeval_rel hf hy).str
  have hbl := bytesAV_length s
  have hfit := growslice_fits (bytes := 1) (need := s.size) (old := 0) (by omega) (by omega)
  have hrun := run_append_nil_string (P := P) w t t2 T e ii z hu (strTyB_eq ht2) hii hz s h0 (by omega) (by rw [hb1]; exact hfit)
  rw [exec_append hux huy hrun]
  simp only [Result.andThen_ok]
  have hk1 := grownCap_ge w s.size 0 e
  have hk2 := grownCap_le_maxLen w s.size 0 e (by unfold maxLen; omega)
  generalize grownCap w s.size 0 e = c' at *
  generalize hC : (Lib.strCells s).toArray ++ Builtin.zeroCells z.cells (c' - s.size) = C at *
  have hCl : C.size = c' := by
    rw [← hC, hzc]
    simp only [Array.size_append, List.size_toArray, Lib.strCells_length, size_zeroCells]
    simp; omega
  have hext0 : Ext (fun _ _ => False) w (w.drew.alloc (.cells C e)) :=
    ⟨rfl, rfl, rfl, by simp, fun k hk _ => Below.heap_alloc w.drew _ k hk, fun ad v hc _ => (World.cell?_alloc_lt w.drew _ ad (cell_lt hc)).trans hc⟩
  obtain ⟨k1, k2, k3⟩ := hst.cons (x := .trow w.heap.size e (bytesAV s ++ List.replicate (c' - s.size) .any)) (b := w.heap.size) rfl (Nat.le_refl _) (by simp) hext0 (fun m => by
      refine ⟨C, heap_alloc_new w.drew _, ?_, fun j u hj => ?_⟩
      · simp only [List.length_append, List.length_replicate, hbl]; omega
      · have hjl := (List.getElem?_eq_some_iff.1 hj).1
        simp only [List.length_append, List.length_replicate, hbl] at hjl
        by_cases h2 : j < s.size
        · rw [List.getElem?_append_left (by omega)] at hj
          obtain ⟨q, hu1, hu2⟩ := bytesAV_rel (S := Sof Fr ah) (w := w) hj
          refine ⟨q, ?_, RelC.mv m _ _ hu2⟩
          rw [← hC, Array.getElem?_append_left (by simp only [List.size_toArray, Lib.strCells_length]; omega)]
          simp only [List.getElem?_toArray]
          exact hu1
        · rw [List.getElem?_append_right (by omega), List.getElem?_replicate] at hj
          split at hj
          · obtain rfl := Option.some.inj hj
            exact ⟨C[j]'(by omega), Array.getElem?_eq_getElem _, by simp [RelC]⟩
          · cases hj)
  have e4 : (bytesAV s).length + (List.replicate (c' - s.size) AV.any).length = c' := by rw [hbl, List.length_replicate]; omega
  refine ⟨.ret (.osl w.heap.size (bytesAV s).length ((bytesAV s).length + (List.replicate (c' - s.size) AV.any).length)), _, ⟨w.heap.size, _, rfl, rfl⟩, ⟨_, rfl, ?_⟩, k1, k2, k3⟩
  rw [e4, hbl]
  exact mk_osl hk1 hk2
theorem AOp.sliceData {x : Operand} {g n c : Nat} {tys : Array TypeId} (hx : aeval af x = some (.osl g n c)) (h0 : 0 < n) : AOp P ⟨d, .call ⟨.builtin .unsafeSliceData, #[x], tys⟩, T, ps, es, gd⟩ af ah (D (.ref g 0) ah) := AOp.of_pure fun S a w hf _ => by
  obtain ⟨hux, hl1, hl2⟩ := (aeval_rel hf hx).osl
  have h := Lib.run_unsafeSliceData_row (P := P) w tys T ⟨g, 0, none⟩ n c (by omega)
  exact ⟨_, by simp only [execOp, resolve, invoke, builtin, Sem.run_bind, Sem.run_pure, Result.andThen_ok, List.map_toArray, List.map_cons, List.map_nil, hux, h], mk_ref⟩
theorem AOp.unsafeStr {x y : Operand} {g i e : Nat} {l : List UInt8} {tl : List AV} {pt it : TypeId} (hx : aeval af x = some (.ref g 0)) (hy : aeval af y = some (.int .i64 l.length)) (hi : ah[i]? = some (.trow g e (bytesAV ⟨l.toArray⟩ ++ tl))) (h0 : l ≠ []) (hp : ptrTo P pt e = true) (hc : P.cellsOf e = 1) (h63 : l.length ≤ 9223372036854775807) :
    AOp P ⟨d, .call ⟨.builtin .unsafeString, #[x, y], #[pt, it]⟩, T, ps, es, gd⟩ af ah (D (.str ⟨l.toArray⟩) (ah.set i (.tail none 0 0 1))) := .mk fun Fr a w hst hf => by
  have hux := (aeval_rel hf hx).ref
  have huy := (aeval_rel hf hy).int
  have him := List.mem_of_getElem? hi
  obtain ⟨cs, hh, hsz, hr⟩ := hst.rel _ him
  have hbl : (bytesAV ⟨l.toArray⟩).length = l.length := by rw [bytesAV_length]; simp [ByteArray.size]
  have hsh : w.shape? g = some (e, cs.size) := by simp [World.shape?, hh]
  have hcell : ∀ (j : Nat) x, l[j]? = some x → w.cell? ((⟨g, 0, none⟩ : Addr).add j) = some (.int .u8 x.toNat) := fun j x hj => by
    have hlt := (List.getElem?_eq_some_iff.1 hj).1
    obtain ⟨v, hv, hrv⟩ := hr j (.int .u8 x.toNat) (by rw [List.getElem?_append_left (by omega)]; simp [bytesAV, hj])
    simp only [RelC, List.cons.injEq, and_true] at hrv
    subst hrv
    rw [addr_add, Nat.zero_add, cell_of_row w g _ cs e (0, 0) hh]
    exact hv
  have h := Lib.run_unsafeString_row (P := P) w pt it T e (ptrTo_eq hp) hc g cs.size hsh l h0 (by rw [hsz, List.length_append]; omega) h63 hcell
  have hrun : (execOp a.eval ⟨d, .call ⟨.builtin .unsafeString, #[x, y], #[pt, it]⟩, T, ps, es, gd⟩).run P w = .ok (.value (.string ⟨l.toArray⟩)) (w.freeze ⟨g, 0, none⟩ l.length) := by
    simp only [execOp, resolve, invoke, builtin, Sem.run_bind, Sem.run_pure, Result.andThen_ok, List.map_toArray, List.map_cons, List.map_nil, hux, huy, h]
  rw [hrun]
  have hl0 : l.length ≠ 0 := by simpa using h0
  have hfr : (w.freeze ⟨g, 0, none⟩ l.length).heap.size = w.heap.size := by simp [World.freeze, hl0]
  have hrest : ∀ k, k ≠ g → (w.freeze ⟨g, 0, none⟩ l.length).heap[k]? = w.heap[k]? := fun k hk => by simp [World.freeze, hl0, Array.getElem?_modify, Ne.symm hk]
  have hext : Ext (Own.trow g e (bytesAV ⟨l.toArray⟩ ++ tl)).reg w (w.freeze ⟨g, 0, none⟩ l.length) := ⟨by simp [World.freeze, hl0], by simp [World.freeze, hl0], by simp [World.freeze, hl0], by omega, fun k hk hn => hrest k (fun e => hn 0 e), fun ad v hc hn => (World.cell?_of_block (hrest ad.block (fun e => hn e))).trans hc⟩
  obtain ⟨k1, k2, k3⟩ := hst.update (x' := .tail none 0 0 1) hi hext (fun k hk => by cases hk) (fun b o _ h => by obtain ⟨h, _⟩ := h; cases h) (fun k hk => by cases hk) (fun m => ⟨rfl, rfl⟩)
  exact ⟨_, _, ⟨rfl, rfl⟩, ⟨_, rfl, mk_str⟩, k1, k2, k3⟩
end
section
variable {C : Cx} {ds : List Deferred} {ks : List K} {af : AF} {ah : AH} {ops : Array Oper} {rest : List Oper}
theorem AL.alloc_t (zs : List AV) {dd : Nat} {t T : TypeId} {ps : String} {es : Array Edge} (ht : zeroCells C.P t = AV.flats zs) (hz : (AV.flats zs).isSome = true) (h1 : ∀ x ∈ zs, x.size = 1) (hn : Nat.blt dd C.n = true) (hk : ∀ b, AL C ds ks ops rest ((dd, .ref b 0) :: af) (.trow b t zs :: ah)) :
    AL C ds ks ops (⟨some dd, .alloc t, T, ps, es, none⟩ :: rest) af ah :=
  AL.step rfl hn (AOp.alloc_t ht hz h1) (by rintro _ _ ⟨b, e, rfl⟩; injection e with e; subst e; exact hk b) (by rintro _ _ ⟨b, e, _⟩; cases e)
theorem AL.store_tcell (i : Nat) {x y : Operand} {b bt off : Nat} {xs : List AV} {v : AV} {t T : TypeId} {ps : String} {es : Array Edge} (hx : aeval af x = some (.ref b off)) (hy : aeval af y = some v) (hi : ah[i]? = some (.trow b bt xs)) (hs : Nat.blt off xs.length = true) (hok : v.cellOK = true) (hz : Nat.beq v.size 1 = true)
    (ht : tkind C.P t = some (v.isSt, v.size)) (hk : AL C ds ks ops rest af (ah.set i (.trow b bt (xs.set off v)))) : AL C ds ks ops (⟨none, .store t x y, T, ps, es, none⟩ :: rest) af ah :=
  AL.step rfl rfl (AOp.store_tcell hx hy hi (by have h := hs; simp [Nat.blt] at h; omega) hok (nbeq_iff.1 hz) ht) (by rintro _ _ ⟨⟨u, e⟩, rfl⟩; exact hk) (by rintro _ _ ⟨⟨u, e⟩, _⟩; cases e)
end
end Go.SX
namespace Go.SX
open Go.RowKit
set_option linter.unusedVariables false
set_option linter.unusedSimpArgs false
theorem Tri.forget {P : Program} {f : FuncId} {args xs : List AV} {ah : AH} (h : Tri P f args ah (fun x h => ∃ b c n sz, x = .ret (.slt xs b c) ∧ h = [.tail b n c sz])) : Tri P f args ah (D (.sl xs) []) :=
  ⟨h.1, fun Fr w vs hst hrel => (h.2 Fr w vs hst hrel).mono fun e w' ⟨x, ah', ⟨b, c, n, sz, hx, hah⟩, he, hst', hext, hnew⟩ => by
    subst hx hah
    obtain ⟨v, rfl, hv⟩ := he
    refine ⟨.ret (.sl xs), [], ⟨rfl, rfl⟩, ⟨v, rfl, ?_⟩, hst'.sub (List.nil_sublist _), hext, fun b o _ h => by obtain ⟨_, h, _⟩ := h; cases h⟩
    exact (Rel.as_sl hv).mv (Mv.same w' fun b o h => h.elim .inl fun ⟨_, hx, _⟩ => by cases hx)⟩
theorem Tri.of_nil {P : Program} {f : FuncId} {x : AV} {sz : Nat} {Φ : AEnd → AH → Prop} (h : Tri P f [x, .slt [] none 0] [.tail none 0 0 sz] Φ) : Tri P f [x, .val (.slice none 0 0)] [] Φ :=
  ⟨h.1, fun Fr w vs hst hrel => by
    have hreg : ∀ b o, ¬ reg ([.tail none 0 0 sz] : AH) b o := fun b o h => by
      obtain ⟨y, hy, hr⟩ := h
      rw [List.mem_singleton.1 hy] at hr
      obtain ⟨h, _⟩ := hr
      cases h
    have hst' : St Fr [.tail none 0 0 sz] w := {
      nodup := (List.nodup_nil : ([] : List Nat).Nodup)
      lt := fun o ho b hb => by rw [List.mem_singleton.1 ho] at hb; cases hb
      fr := fun o ho b hb => by rw [List.mem_singleton.1 ho] at hb; cases hb
      frlt := hst.frlt
      rel := fun o ho => by rw [List.mem_singleton.1 ho]; exact ⟨rfl, rfl⟩ }
    simp only [RelVs] at hrel
    obtain ⟨u1, us, rfl, h1, h1', u2, us2, rfl, h2, h2', rfl⟩ := hrel
    have hu2 : u2 = .slice none 0 0 := (show Rel (Sof Fr []) w (.val (.slice none 0 0)) u2 from ⟨h2, h2'⟩).val
    subst hu2
    have hm : Mv (Sof Fr []) (Sof Fr [.tail none 0 0 sz]) w w := Mv.same w fun b o h => h.elim .inl fun h => (hreg b o h).elim
    have hn : Rel (Sof Fr [.tail none 0 0 sz]) w (.slt [] none 0) (.slice none 0 0) := rel_nil
    have hx : Rel (Sof Fr [.tail none 0 0 sz]) w x u1 := (show Rel (Sof Fr []) w x u1 from ⟨h1, h1'⟩).mv hm
    refine (h.2 Fr w [u1, .slice none 0 0] hst' ?_).mono fun e w' ⟨y, ah', k1, k2, k3, k4, k5⟩ => ⟨y, ah', k1, k2, k3, k4.mono fun b o h => (hreg b o h).elim, fun b o hb h => (hreg b o (k5 b o hb h)).elim⟩
    simp only [RelVs]
    exact ⟨_, _, rfl, hx.1, hx.2, _, _, rfl, hn.1, hn.2, rfl⟩⟩
section
variable {P : Program} {af : AF} {ah : AH} {d : Option Tmp} {T : TypeId} {ps : String} {es : Array Edge} {gd : Option (Nat × Bool)}
theorem AOp.call_slt {f : FuncId} {y x1 x2 : Operand} {tys : Array TypeId} {xs : List AV} {b : Option Nat} {n : Nat} {v : AV} {Φ : AEnd → AH → Prop} (hy : aeval af y = some (.fn f [])) (h1 : aeval af x1 = some (.slt xs b n)) (h2 : aeval af x2 = some v) (h : Tri P f [.sl xs, v] ah Φ) :
    AOp P ⟨d, .call ⟨.value y, #[x1, x2], tys⟩, T, ps, es, gd⟩ af ah Φ :=
  AOp.callV (caps := []) (args := [.sl xs, v]) hy (fun S w a hfr => by
    have k1 := Rel.as_sl (aeval_rel hfr h1)
    have k2 := aeval_rel hfr h2
    simp only [List.map_cons, List.map_nil, RelVs]
    exact ⟨_, _, rfl, k1.1, k1.2, _, _, rfl, k2.1, k2.2, rfl⟩) (by simpa using h)
theorem AOp.call_nil2 {f : FuncId} {y x1 : Operand} {tys : Array TypeId} {v : AV} {Φ : AEnd → AH → Prop} (hy : aeval af y = some (.fn f [])) (h1 : aeval af x1 = some v) (h : Tri P f [v, .val (.slice none 0 0)] ah Φ) :
    AOp P ⟨d, .call ⟨.value y, #[x1, .const (.slice none 0 0)], tys⟩, T, ps, es, gd⟩ af ah Φ :=
  AOp.callV (caps := []) (args := [v, .val (.slice none 0 0)]) hy (fun S w a hfr => by
    have k1 := aeval_rel hfr h1
    simp only [List.map_cons, List.map_nil, RelVs]
    exact ⟨_, _, rfl, k1.1, k1.2, _, _, rfl, by simp [RelC, Act.eval], by simp [Shape, Act.eval], rfl⟩) (by simpa using h)
end
end Go.SX
namespace Go.SX
open Go.RowKit
set_option linter.unusedVariables false
set_option linter.unusedSimpArgs false
section
variable {P : Program} {af : AF} {ah : AH}
variable {d : Option Tmp} {T : TypeId} {ps : String} {es : Array Edge} {gd : Option (Nat × Bool)}
theorem AOp.range_nil {x : Operand} {t e : TypeId} {kd : TypeDesc} (hx : aeval af x = some (.val (.map none))) (ht : mapTy P t = some (kd, e)) :
    AOp P ⟨d, .range t x, T, ps, es, gd⟩ af ah (fun r h => ∃ it, r = .ret (.ref it 0) ∧ h = .niter it :: ah) := .mk fun Fr a w hst hf => by
  obtain ⟨kt, hu, hkt⟩ := mapTy_parts ht
  have hv := (aeval_rel hf hx).val
  have hrun : (execOp a.eval ⟨d, .range t x, T, ps, ‹Array Edge›, gd⟩).run P w = .ok (.value (.pointer (some ⟨w.heap.size, 0, none⟩))) (w.alloc (.mapIter none 0 #[] 0)) := by
    have h1 : (newObj (.mapIter none 0 #[] 0)).run P w = .ok w.heap.size (w.alloc (.mapIter none 0 #[] 0)) := rfl
    simp only [execOp, hv, Instr.range, Sem.run_bind, run_underlying hu, Result.andThen_ok, Sem.run_pure, h1]
  rw [hrun]
  have hx' : Ext (fun _ _ => False) w (w.alloc (.mapIter none 0 #[] 0)) := Ext.alloc _ _ _
  obtain ⟨k1, k2, k3⟩ := hst.cons (x := .niter w.heap.size) (b := w.heap.size) rfl (Nat.le_refl _) (by simp) hx' (fun m => heap_alloc_new w _)
  exact ⟨_, _, ⟨_, rfl, rfl⟩, ⟨_, rfl, mk_ref⟩, k1, k2, k3⟩
theorem AOp.next_nil (j : Nat) {x : Operand} {it : Nat} (hx : aeval af x = some (.ref it 0)) (hj : ah[j]? = some (.niter it)) :
    AOp P ⟨d, .next x false, T, ps, es, gd⟩ af ah (D (.tup [.bool false]) ah) := .mk fun Fr a w hst hf => by
  have hit : w.heap[it]? = some (.mapIter none 0 #[] 0) := hst.rel _ (List.mem_of_getElem? hj)
  have hexec : (execOp a.eval ⟨d, .next x false, T, ps, ‹Array Edge›, gd⟩).run P w = .ok (.value (.tuple #[.bool false])) w := by
    have h1 : (getObj it).run P w = .ok (.mapIter none 0 #[] 0) w := by simp [getObj, Sem.run, hit]
    simp only [execOp, (aeval_rel hf hx).ref, Instr.next, Sem.run_bind, h1, Result.andThen_ok, Sem.run_pure]
  rw [hexec]
  refine ⟨.ret (.tup [.bool false]), ah, ⟨rfl, rfl⟩, ⟨_, rfl, ?_, by simp [Shape]⟩, hst, Ext.refl _ _, fun _ _ _ h => h⟩
  simp only [RelC, Value.cells]
  refine ⟨[.bool false], rfl, ?_⟩
  simp only [RelVs]
  exact ⟨_, _, rfl, by simp [RelC, Value.cells], by simp [Shape], rfl⟩
theorem AOp.append_new {x y : Operand} {b0 i e bytes n : Nat} {ys : List AV} {v : AV} {t t2 : TypeId} (hx : aeval af x = some (.slt [] (some b0) 0)) (hi : ah[i]? = some (.tail (some b0) 0 0 1)) (hy : aeval af y = some v) (hs : srcOf v = some ys) (hn : n = ys.length) (hp : 0 < n) (hys : ∀ y ∈ ys, y.size = 1)
    (ht : appTy P t = some (e, 1, bytes)) (ht2 : isSlTy P t2 = true) (hb : n * bytes ≤ 140737488355328) (h63 : n ≤ 9223372036854775807) :
    AOp P ⟨d, .call ⟨.builtin .append, #[x, y], #[t, t2]⟩, T, ps, es, gd⟩ af ah (fun r h => ∃ b' c', n ≤ c' ∧ r = .ret (.osl b' n c') ∧ h = ah.set i (.row b' ys)) := .mk fun Fr a w hst hf => by
  subst hn
  obtain ⟨hux, _, _, _⟩ := (aeval_rel hf hx).slt
  obtain ⟨A2, c2, hu2, hl2', hm2, hrow2⟩ := srcOf_rel (aeval_rel hf hy) hs
  obtain ⟨news, hn1, hn2, hn3⟩ := run_first (P := P) (w' := w.drew) (c := c2) (sz := 1) hrow2 hys rfl
  have hexec : ∀ r, (Builtin.append_ #[t, t2] T #[.slice (some ⟨b0, 0, none⟩) 0 0, .slice A2 ys.length c2]).run P w = r → (execOp a.eval ⟨d, .call ⟨.builtin .append, #[x, y], #[t, t2]⟩, T, ps, es, gd⟩).run P w = r.andThen fun v w' => .ok (.value v) w' := by
    intro r hr
    simp only [execOp, resolve, invoke, builtin, Sem.run_bind, Sem.run_pure, Result.andThen_ok, List.map_toArray, List.map_cons, List.map_nil, hux, hu2, Option.map_some, List.length_nil]
    rw [hr]
  have hold : (Builtin.firstCells 1 0 (.slice (some ⟨b0, 0, none⟩) 0 0)).run P w.drew = .ok ([] : List Value).toArray w.drew := by simp [Builtin.firstCells, loadCells, loadCellsFrom]
  obtain ⟨c', z, hc1, hc2, hzs, hrun⟩ := run_append_grow (ty := T) ht ht2 hn1 hold (by omega) (by rw [Nat.zero_add]; exact hb) (by simpa [maxLen] using h63)
  rw [Nat.zero_add] at hc1 hrun
  rw [hexec _ hrun]
  simp only [Result.andThen_ok]
  have hn3' : news.length = ys.length := by simpa using hn3
  generalize hcs : ([] : List Value).toArray ++ news.toArray ++ Builtin.zeroCells z.cells (c' - ys.length) = cs'
  have hext0 : Ext (fun _ _ => False) w (w.drew.alloc (.cells cs' e)) :=
    ⟨rfl, rfl, rfl, by simp, fun k hk _ => Below.heap_alloc w.drew _ k hk, fun ad v hc _ => (World.cell?_alloc_lt w.drew _ ad (cell_lt hc)).trans hc⟩
  obtain ⟨k1, k2, k3⟩ := hst.update (x' := .row w.heap.size ys) hi (hext0.mono fun _ _ h => h.elim) (fun k h => .inr (by simp only [Own.blk, Option.some.injEq] at h; omega))
    (fun k o hk h => by have h' : k = w.heap.size := h; omega) (fun k h => by simp only [Own.blk, Option.some.injEq] at h; subst h; simp) (fun m => by
      refine ⟨cs', e, heap_alloc_new w.drew _, fun k v hk => ?_⟩
      have hkl := (List.getElem?_eq_some_iff.1 hk).1
      obtain ⟨u, hu1, hu2⟩ := RelCs.get1 hn2 hys k v hk
      refine ⟨u, ?_, RelC.mv m _ _ hu2⟩
      rw [← hcs, Array.getElem?_append_left (by simp only [Array.size_append, List.size_toArray, List.length_nil]; omega), Array.getElem?_append_right (by simp)]
      simpa using hu1)
  exact ⟨_, _, ⟨w.heap.size, c', hc1, rfl, rfl⟩, ⟨_, rfl, mk_osl hc1 hc2⟩, k1, k2, k3⟩
end
section
variable {C : Cx} {ds : List Deferred} {ks : List K} {af : AF} {ah : AH} {ops : Array Oper} {rest : List Oper}
theorem AL.range_nil (e : Nat) (kd : TypeDesc) {dd : Nat} {x : Operand} {t T : TypeId} {ps : String} {es : Array Edge} (hx : aeval af x = some (.val (.map none))) (ht : mapTy C.P t = some (kd, e)) (hn : Nat.blt dd C.n = true)
    (hk : ∀ it, AL C ds ks ops rest ((dd, .ref it 0) :: af) (.niter it :: ah)) : AL C ds ks ops (⟨some dd, .range t x, T, ps, es, none⟩ :: rest) af ah :=
  AL.step rfl hn (AOp.range_nil hx ht) (by rintro _ _ ⟨it, e, rfl⟩; injection e with e; subst e; exact hk it) (by rintro _ _ ⟨it, e, _⟩; cases e)
theorem AL.append_new (i : Nat) {x y : Operand} {b0 e bytes n dd : Nat} {ys : List AV} {v : AV} {t t2 T : TypeId} {ps : String} {es : Array Edge} (hx : aeval af x = some (.slt [] (some b0) 0)) (hi : ah[i]? = some (.tail (some b0) 0 0 1)) (hy : aeval af y = some v) (hs : srcOf v = some ys) (hn : n = ys.length) (hp : 0 < n) (hys : ∀ y ∈ ys, y.size = 1)
    (ht : appTy C.P t = some (e, 1, bytes)) (ht2 : isSlTy C.P t2 = true) (hb : n * bytes ≤ 140737488355328) (h63 : n ≤ 9223372036854775807) (hd : Nat.blt dd C.n = true)
    (hk : ∀ b' c', n ≤ c' → AL C ds ks ops rest ((dd, .osl b' n c') :: af) (ah.set i (.row b' ys))) : AL C ds ks ops (⟨some dd, .call ⟨.builtin .append, #[x, y], #[t, t2]⟩, T, ps, es, none⟩ :: rest) af ah :=
  AL.step rfl hd (AOp.append_new hx hi hy hs hn hp hys ht ht2 hb h63) (by rintro _ _ ⟨b', c', h, e, rfl⟩; injection e with e; subst e; exact hk b' c' h) (by rintro _ _ ⟨b', c', _, e, _⟩; cases e)
theorem AW.freeze_box (i j : Nat) {b n c r : Nat} {xs : List AV} {v : AV} (v' : AV) (hi : ah[i]? = some (.row b xs)) (hj : (ah.eraseIdx i)[j]? = some (.box r v)) (hn : n = xs.length) (hs : ∀ x ∈ xs, x.size = 1)
    (hv : ∀ (S : Rg) w, (∀ cs, RelC S w (.osl b n c) cs → RelC S w (.sl xs) cs) → ∀ cs, RelC S w v cs → RelC S w v' cs) (k : AW C ds ks af ((ah.eraseIdx i).set j (.box r v'))) : AW C ds ks af ah := .mk fun a w g => by
  have g' := g.sub (List.eraseIdx_sublist ah i)
  obtain ⟨cs, tt, hh, hrc⟩ := g'.st.rel _ (List.mem_of_getElem? hj)
  have hrc' := hv _ _ (fun cs h => relc_frozen g.st hi hn hs h) _ hrc
  obtain ⟨k1, k2, k3⟩ := g'.st.update (x' := .box r v') hj (Ext.refl _ w) (fun k hk => .inl hk) (fun _ _ _ h => h)
    (fun k hk => by simp only [Own.blk, Option.some.injEq] at hk; subst hk; exact g'.st.lt _ (List.mem_of_getElem? hj) r rfl) (fun m => ⟨cs, tt, hh, RelC.mv m _ _ hrc'⟩)
  exact k.out a w (g'.next (d := none) (v := .any) (u := undef) rfl ⟨by simp [RelC, undef, Value.cells], by simp [Shape]⟩ k1 k2 k3)
end
theorem Tri.pureE {P : Program} {f : FuncId} {args : List AV} {Φ : AEnd → AH → Prop} (h : Tri P f args [] Φ) (ah : AH) : Tri P f args ah (fun x h => ∃ h1, Φ x h1 ∧ h = h1 ++ ah) := Tri.frame [] (ah := ah) h
theorem EndR.reorder {Fr R0 : Rg} {w0 w : World} {e : Ending} {Φ Ψ : AEnd → AH → Prop} (k : EndR Fr R0 w0 Φ e w) (h : ∀ x ah, Φ x ah → ∃ ah', Ψ x ah' ∧ ah.Perm ah') : EndR Fr R0 w0 Ψ e w := by
  obtain ⟨x, ah, hΦ, he, hst, hx, hn⟩ := k
  obtain ⟨ah', hΨ, hp⟩ := h x ah hΦ
  refine ⟨x, ah', hΨ, ?_, hst.perm hp, hx, fun b o hb hr => hn b o hb ((reg_perm hp).2 hr)⟩
  have hm : Mv (Sof Fr ah) (Sof Fr ah') w w := Mv.same w fun b o hs => hs.elim .inl fun h' => .inr ((reg_perm hp).2 h')
  cases x with
  | ret x => obtain ⟨v, rfl, hv⟩ := he; exact ⟨v, rfl, hv.mv hm⟩
  | pan x => obtain ⟨v, rfl, hv⟩ := he; exact ⟨v, rfl, hv.mv hm⟩
theorem Tri.around {P : Program} {f : FuncId} {args : List AV} {b : AH} {Φ : AEnd → AH → Prop} (h : Tri P f args b Φ) (a c : AH) : Tri P f args (a ++ (b ++ c)) (fun x h => ∃ h1, Φ x h1 ∧ h = a ++ (h1 ++ c)) :=
  ⟨h.1, fun Fr w vs h1 h2 => (((h.behind c).front a).2 Fr w vs h1 h2).mono fun e w' he => he.reorder fun x ah ⟨u, ⟨v, hv, e1⟩, e2⟩ => ⟨a ++ (v ++ c), ⟨v, hv, rfl⟩, by rw [e2, e1]; exact List.perm_append_comm⟩⟩
theorem Tri.aroundD {P : Program} {f : FuncId} {args : List AV} {b b' : AH} {v : AV} (h : Tri P f args b (D v b')) (a c : AH) : Tri P f args (a ++ (b ++ c)) (D v (a ++ (b' ++ c))) :=
  (h.around a c).mono fun x h ⟨h1, ⟨e1, e2⟩, e3⟩ => ⟨e1, by rw [e3, e2]⟩
section
variable {C : Cx} {ds : List Deferred} {ks : List K} {af : AF} {ah : AH} {ops : Array Oper} {rest : List Oper}
theorem AL.callQ_nil2 {d : Option Tmp} {T : TypeId} {ps : String} {es : Array Edge} {f : FuncId} {y x1 : Operand} {tys : Array TypeId} {v : AV} {Φ : AEnd → AH → Prop} (hy : aeval af y = some (.fn f [])) (h1 : aeval af x1 = some v)
    (h : Tri C.P f [v, .val (.slice none 0 0)] ah Φ) (hd : okDst d C.n = true) (hk : ∀ v ah', Φ (.ret v) ah' → AL C ds ks ops rest (put af d v) ah') (hp : ∀ v ah', Φ (.pan v) ah' → APan C ds v ah') :
    AL C ds ks ops (⟨d, .call ⟨.value y, #[x1, .const (.slice none 0 0)], tys⟩, T, ps, es, none⟩ :: rest) af ah := AL.step rfl hd (AOp.call_nil2 hy h1 h) hk hp
end
end Go.SX
