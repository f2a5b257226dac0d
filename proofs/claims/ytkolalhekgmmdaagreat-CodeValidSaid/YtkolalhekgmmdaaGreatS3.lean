/- The library of abstract walks, part 3. -/
import Derived.Test.YtkolalhekgmmdaaGreatS2
import Derived.Test.YtkolalhekgmmdaaGreatS2
import Derived.Lib.AppendZerosOnto
import Derived.Lib.AppendStr
import Derived.Lib.UnsafeStr
import Derived.Lib.Builder
import Derived.Laws.Externs
import Derived.Laws.IdiomStrings
import Derived.RangeFuncLeaves
import Derived.RangeFuncRecord
import Derived.Shelf.SlIter.Sorted
import Derived.Shelf.SlIter.Collect
import Derived.Laws.StructEq
namespace Go.SX
open Go.RowKit
set_option linter.unusedVariables false
set_option linter.unusedSimpArgs false
section
variable {P : Program} {af : AF} {ah : AH} {d : Option Tmp} {T : TypeId} {ps : String} {es : Array Edge} {gd : Option (Nat × Bool)}
def nilS : AV := .val (.slice none 0 0)
theorem AOp.callV {f : FuncId} {y : Operand} {caps : List AV} {xs : Array Operand} {tys : Array TypeId} {args : List AV} {Φ : AEnd → AH → Prop} (hy : aeval af y = some (.fn f caps)) (hx : ∀ (S : Rg) (w : World) (a : Act), AFRel S w af a → RelVs S w args (xs.toList.map a.eval))
    (h : Tri P f (args ++ caps) ah Φ) : AOp P ⟨d, .call ⟨.value y, xs, tys⟩, T, ps, es, gd⟩ af ah Φ := .mk fun Fr a w hst hf => by
  obtain ⟨vs, hv, hc⟩ := (aeval_rel hf hy).fn
  have hr := hx _ _ _ hf
  have hrun : (execOp a.eval ⟨d, .call ⟨.value y, xs, tys⟩, T, ps, es, gd⟩).run P w = .ok (.enter f ((xs.toList.map a.eval ++ vs).toArray)) w := by
    simp only [execOp, resolve, hv, Deferred.ofValue, Sem.run_bind, Sem.run_pure, Result.andThen_ok, invoke]
    rw [run_callFunc h.1]
    congr 2
    apply Array.ext'
    simp
  rw [hrun]
  exact h.2 Fr w _ hst (hr.append hc)
theorem AOp.cap_nil {x : Operand} {t : TypeId} (ht : lenTy P t = some false) (hx : aeval af x = some nilS) : AOp P ⟨d, .call ⟨.builtin .cap, #[x], #[t]⟩, T, ps, es, gd⟩ af ah (D (.int .i64 0) ah) :=
  AOp.of_pure fun S a w hfr _ => by
    have hu := (aeval_rel hfr hx).val
    obtain ⟨e, ht⟩ := lenTy_sl ht
    exact ⟨.int .i64 0, by simp [execOp, resolve, invoke, builtin, hu, Builtin.cap_, goInt, run_underlying ht], mk_int⟩
theorem AOp.len_nil {x : Operand} {t : TypeId} (ht : lenTy P t = some false) (hx : aeval af x = some nilS) : AOp P ⟨d, .call ⟨.builtin .len, #[x], #[t]⟩, T, ps, es, gd⟩ af ah (D (.int .i64 0) ah) :=
  AOp.of_pure fun S a w hfr _ => by
    have hu := (aeval_rel hfr hx).val
    obtain ⟨e, ht⟩ := lenTy_sl ht
    exact ⟨.int .i64 0, by simp [execOp, resolve, invoke, builtin, hu, Builtin.len_, Builtin.lenOf, goInt, run_underlying ht], mk_int⟩
theorem AOp.cut_nil {x : Operand} {lo hi : Option Operand} {t sz : Nat} (ht : esize P t = some sz) (hx : aeval af x = some nilS) (el : bndIs af lo 0 0) (eh : bndIs af hi 0 0) : AOp P ⟨d, .slice t x lo hi none, T, ps, es, gd⟩ af ah (D nilS ah) :=
  AOp.of_pure fun S a w hf _ => by
    have hu := (aeval_rel hf hx).val
    unfold esize at ht
    split at ht
    · rename_i e hut
      cases hi' : P.info? e with
      | none => simp [hi'] at ht
      | some i =>
        have hb := run_bounds (P := P) (c := 0) (sl := true) (w := w) hf el eh (Nat.le_refl _) (Nat.le_refl _)
        refine ⟨.slice none 0 0, by simp [execOp, Instr.sliceAt, run_underlying hut, Instr.slice, hu, hb, sizeOf, typeInfo, hi'], ?_⟩
        exact ⟨by simp [nilS, RelC, Value.cells], by simp [nilS, Shape]⟩
    · cases ht
theorem AOp.cut_osl {x : Operand} {hi : Option Operand} {t sz b n c h : Nat} (ht : esize P t = some sz) (hx : aeval af x = some (.osl b n c)) (eh : bndIs af hi n h) (hh : h ≤ c) : AOp P ⟨d, .slice t x none hi none, T, ps, es, gd⟩ af ah (D (.osl b h c) ah) :=
  AOp.of_pure fun S a w hf _ => by
    obtain ⟨hu, hl1, hl2⟩ := (aeval_rel hf hx).osl
    unfold esize at ht
    split at ht
    · rename_i e hut
      cases hi' : P.info? e with
      | none => simp [hi'] at ht
      | some i =>
        have hb := run_bounds (P := P) (w := w) (c := c) (sl := true) hf (bndIs.none (af := af) (n := 0)) eh (Nat.zero_le _) hh
        refine ⟨.slice (some ⟨b, 0, none⟩) h c, ?_, mk_osl hh hl2⟩
        simp only [Option.map_none] at hb
        simp [execOp, Instr.sliceAt, run_underlying hut, Instr.slice, hu, hb, sizeOf, typeInfo, hi', addr_add]
    · cases ht
theorem appRow {t e bytes : Nat} {c : Value} (h : rowTy P t = some (e, c, bytes)) : appTy P t = some (e, 1, bytes) := by
  obtain ⟨hu, i, z, hi, hz, hzc, hs, hb⟩ := rowTy_parts h
  unfold appTy
  rw [hu]
  simp only [hi, hz, hzc, hs, hb]
  rfl
theorem AOp.append_zeros {x y : Operand} {n : Nat} {t t2 e bytes : Nat} {c : Value} {z : AV} (hx : aeval af x = some nilS) (hy : aeval af y = some (.int .i64 n)) (h0 : 0 < n) (ht : rowTy P t = some (e, c, bytes)) (ht2 : (match P.underlying t2 with | some (.int _) => true | _ => false) = true) (hz : z.flat = some [c]) (hb : n * bytes ≤ 16777216) (hn : n ≤ 16777216) :
    AOp P ⟨d, .call ⟨.builtin .append, #[x, y], #[t, t2]⟩, T, ps, es, gd⟩ af ah (fun r h => ∃ b k, n ≤ k ∧ r = .ret (.osl b n k) ∧ h = .row b (List.replicate k z) :: ah) := .mk fun Fr a w hst hf => by
  have e1 := (aeval_rel hf hx).val
  have e2 := (aeval_rel hf hy).int
  obtain ⟨hu, i, zv, hi, hzv, hzc, hs, hbt⟩ := rowTy_parts ht
  obtain ⟨kn, ht2'⟩ : ∃ kn, P.underlying t2 = some (.int kn) := by
    split at ht2
    · exact ⟨_, by assumption⟩
    · cases ht2
  have hold : (Builtin.firstCells i.size 0 (.slice none 0 0)).run P w.drew = .ok ([] : List Value).toArray w.drew := by simp [Builtin.firstCells]
  have hrun := Lib.run_append_grow_zeros w t t2 T e i zv .i64 kn hu ht2' hi hzv none 0 0 [] hold n h0 (by rw [hs]; omega) (by omega) (by simp; omega) (by rw [hbt]; omega) (by rw [Nat.zero_add]; exact growslice_fits (by omega) (by rw [hbt]; omega))
  rw [Nat.zero_add, hzc] at hrun
  generalize hk : grownCap w n 0 e = k at hrun
  have hk1 : n ≤ k := by rw [← hk]; exact grownCap_ge w n 0 e
  have hk2 : k ≤ maxLen := by rw [← hk]; exact grownCap_le_maxLen w n 0 e (by unfold maxLen; omega)
  have hcs : ([] : List Value).toArray ++ Builtin.zeroCells #[c] n ++ Builtin.zeroCells #[c] (k - n) = Array.replicate k c := by
    apply Array.ext'
    simp only [Array.toList_append, zeroCells_one, List.nil_append, List.replicate_append_replicate, Array.toList_replicate]
    congr 1
    omega
  rw [hcs] at hrun
  have hrun' : (execOp a.eval ⟨d, .call ⟨.builtin .append, #[x, y], #[t, t2]⟩, T, ps, es, gd⟩).run P w = .ok (.value (.slice (some ⟨w.heap.size, 0, none⟩) n k)) (w.drew.alloc (.cells (Array.replicate k c) e)) := by
    simp only [execOp, resolve, invoke, builtin, Sem.run_bind, Sem.run_pure, Result.andThen_ok, List.map_toArray, List.map_cons, List.map_nil, e1, e2, hrun]
  rw [hrun']
  have hext0 : Ext (fun _ _ => False) w (w.drew.alloc (.cells (Array.replicate k c) e)) :=
    ⟨rfl, rfl, rfl, by simp, fun k hk _ => Below.heap_alloc w.drew _ k hk, fun ad v hc _ => (World.cell?_alloc_lt w.drew _ ad (cell_lt hc)).trans hc⟩
  obtain ⟨h1, h2, h3⟩ := hst.cons (x := .row w.heap.size (List.replicate k z)) (b := w.heap.size) rfl (Nat.le_refl _) (by simp) hext0 (fun m => ⟨_, e, heap_alloc_new w.drew _, fun j v hj => by
    obtain ⟨hk1, rfl⟩ : j < k ∧ z = v := by
      rw [List.getElem?_replicate] at hj
      split at hj
      · exact ⟨‹_›, Option.some.inj hj⟩
      · cases hj
    exact ⟨c, by simp [hk1], RelC.flat z _ hz⟩⟩)
  exact ⟨_, _, ⟨_, _, hk1, rfl, rfl⟩, ⟨_, rfl, mk_osl hk1 hk2⟩, h1, h2, h3⟩
theorem AOp.append_osl {x y : Operand} {b n c i : Nat} {xs ys : List AV} {v : AV} {t t2 e bytes : Nat} {c0 : Value} (hx : aeval af x = some (.osl b n c)) (hi : ah[i]? = some (.row b xs)) (hc : c ≤ xs.length) (hy : aeval af y = some v) (hs : srcOf v = some ys)
    (ht : rowTy P t = some (e, c0, bytes)) (ht2 : isSlTy P t2 = true) (hys : ∀ y ∈ ys, y.size = 1) (hok : AV.cellsOK ys = true) (hroom : n + ys.length ≤ c) :
    AOp P ⟨d, .call ⟨.builtin .append, #[x, y], #[t, t2]⟩, T, ps, es, gd⟩ af ah (D (.osl b (n + ys.length) c) (ah.set i (.row b (xs.take n ++ ys ++ xs.drop (n + ys.length))))) := .mk fun Fr a w hst hf => by
  obtain ⟨hu, hl1, hl2⟩ := (aeval_rel hf hx).osl
  obtain ⟨A2, c2, hu2, hl2', hm2, hrow2⟩ := srcOf_rel (aeval_rel hf hy) hs
  obtain ⟨ds, d1, d2, d3⟩ := run_first (P := P) (w' := w) (c := c2) hrow2 hys rfl
  rw [Nat.mul_one] at d3
  obtain ⟨w', r1, k1, k2, k3⟩ := hst.laid (P := P) (ys := ys) (ds := ds) (o := n) hi (by omega) d3 (RelCs.cellOK _ ds d2 hok) (fun j y hj => RelCs.get1 d2 hys j y hj)
  have hrun := run_append_room (ty := T) (base := some ⟨b, 0, none⟩) (n := n) (cap := c) (appRow ht) ht2 d1 hroom
  simp only [Nat.mul_one, addr_add, Nat.zero_add, r1, Result.andThen_ok] at hrun
  have hrun' : (execOp a.eval ⟨d, .call ⟨.builtin .append, #[x, y], #[t, t2]⟩, T, ps, es, gd⟩).run P w = .ok (.value (.slice (some ⟨b, 0, none⟩) (n + ys.length) c)) w' := by
    simp only [execOp, resolve, invoke, builtin, Sem.run_bind, Sem.run_pure, Result.andThen_ok, List.map_toArray, List.map_cons, List.map_nil, hu, hu2, hrun]
  rw [hrun']
  exact ⟨_, _, ⟨rfl, rfl⟩, ⟨_, rfl, mk_osl hroom hl2⟩, k1, k2, k3⟩
end
section
variable {C : Cx} {ds : List Deferred} {ks : List K} {af : AF} {ah : AH} {ops : Array Oper} {rest : List Oper}
theorem Good.freeze_pre {a : Act} {w : World} (g : Good C ds af ah a w) {i d b n c : Nat} {xs : List AV} (hi : ah[i]? = some (.row b xs)) (hd : get af d = some (.osl b n c)) (hn : n ≤ xs.length) (hs : ∀ x ∈ xs, x.size = 1) : Good C ds ((d, .sl (xs.take n)) :: af) (ah.eraseIdx i) a w := by
  have g' := g.sub (List.eraseIdx_sublist ah i)
  obtain ⟨cs, t, hh, hr⟩ := g.st.rel _ (List.mem_of_getElem? hi)
  have hbm := List.mem_of_getElem? hi
  have hsof : ∀ b o, Sof C.Fr (ah.eraseIdx i) b o → Sof C.Fr ah b o := fun b o hs => hs.elim .inl fun hr => .inr (reg_sub (List.eraseIdx_sublist ah i) hr)
  refine { g' with fr := fun j v hj => ?_ }
  rw [get_cons] at hj
  by_cases e : d = j
  · subst e
    rw [if_pos rfl] at hj
    obtain rfl := Option.some.inj hj
    obtain ⟨hu, hl1, hl2⟩ := (g.fr d _ hd).osl
    rw [hu]
    refine ⟨?_, by simp [Shape]⟩
    show RelC _ _ (.sl (xs.take n)) [_]
    simp only [RelC]
    have hln : (xs.take n).length = n := by simp; omega
    refine ⟨_, c, by rw [hln], by rw [hln]; exact hl1, hl2, fun _ => ⟨b, 0, 1, rfl, ?_⟩⟩
    have hno : ∀ o, ¬ Sof C.Fr (ah.eraseIdx i) b o := by
      rintro o (hF | ⟨y, hy, hy'⟩)
      · exact g.st.fr _ hbm b rfl _ hF
      · have hyb := reg_blk hy'
        obtain ⟨e1, _⟩ := mem_split hi
        have hn := g.st.nodup
        rw [e1, List.filterMap_append, List.nodup_append, List.filterMap_cons] at hn
        simp only [Own.blk] at hn
        rw [List.eraseIdx_eq_take_drop_succ] at hy
        rcases List.mem_append.1 hy with hy | hy
        · exact hn.2.2 b (List.mem_filterMap.2 ⟨y, hy, hyb⟩) b (by simp) rfl
        · exact (List.nodup_cons.1 hn.2.1).1 (List.mem_filterMap.2 ⟨y, hy, hyb⟩)
    have key : ∀ (l : List AV) (o : Nat), (∀ (k : Nat) x, l[k]? = some x → ∃ v, cs[o + k]? = some v ∧ RelC (Sof C.Fr ah) w x [v]) → RelRow (Sof C.Fr (ah.eraseIdx i)) w l 1 b o := by
      intro l
      induction l with
      | nil => intro o _; simp [RelRow]
      | cons x l ih =>
        intro o h
        simp only [RelRow]
        obtain ⟨v, hv, hrv⟩ := h 0 x rfl
        refine ⟨⟨[v], rfl, RelC.mv (Mv.same w hsof) _ _ hrv, fun j u hj => ⟨hno _, ?_⟩⟩, ih (o + 1) fun k y hk => ?_⟩
        · cases j with
          | zero => simp only [List.getElem?_cons_zero, Option.some.injEq] at hj; subst hj; rw [cell_of_row w b _ cs t (0, 0) hh]; exact hv
          | succ j => simp at hj
        · obtain ⟨v, hv, hrv⟩ := h (k + 1) y (by simpa using hk)
          exact ⟨v, by rw [show o + 1 + k = o + (k + 1) by omega]; exact hv, hrv⟩
    refine key (xs.take n) 0 fun k x hk => ?_
    rw [Nat.zero_add]
    refine hr k x ?_
    have hlt := (List.getElem?_eq_some_iff.1 hk).1
    rw [List.getElem?_take, if_pos (by simp at hlt; omega)] at hk
    exact hk
  · rw [if_neg e] at hj
    exact g'.fr j v hj
theorem AW.freeze_pre (i d : Nat) {b n c : Nat} {xs : List AV} (hi : ah[i]? = some (.row b xs)) (hd : get af d = some (.osl b n c)) (hn : n ≤ xs.length) (hs : ∀ x ∈ xs, x.size = 1) (k : AW C ds ks ((d, .sl (xs.take n)) :: af) (ah.eraseIdx i)) : AW C ds ks af ah := .mk fun a w g => k.out a w (g.freeze_pre hi hd hn hs)
theorem AL.append_zeros {dd : Nat} {x y : Operand} {n : Nat} {t t2 e bytes : Nat} {c : Value} {z : AV} {T : TypeId} {ps : String} {es : Array Edge} (hx : aeval af x = some nilS) (hy : aeval af y = some (.int .i64 n)) (h0 : 0 < n) (ht : rowTy C.P t = some (e, c, bytes)) (ht2 : (match C.P.underlying t2 with | some (.int _) => true | _ => false) = true) (hz : z.flat = some [c]) (hb : n * bytes ≤ 16777216) (hn : n ≤ 16777216) (hd : Nat.blt dd C.n = true)
    (hk : ∀ b k, n ≤ k → AL C ds ks ops rest ((dd, .osl b n k) :: af) (.row b (List.replicate k z) :: ah)) : AL C ds ks ops (⟨some dd, .call ⟨.builtin .append, #[x, y], #[t, t2]⟩, T, ps, es, none⟩ :: rest) af ah :=
  AL.step rfl hd (AOp.append_zeros hx hy h0 ht ht2 hz hb hn) (by rintro _ _ ⟨b, k, h, e, rfl⟩; injection e with e; subst e; exact hk b k h) (by rintro _ _ ⟨b, k, h, e, _⟩; cases e)
end
def Agree : Nat → List Nat → List AV → List AV → Prop
  | k, rem, v :: vs, u :: us => (memN k rem = true ∨ v = u) ∧ Agree (k + 1) rem vs us
  | _, _, [], [] => True
  | _, _, _, _ => False
theorem Agree.spec : ∀ {vs us : List AV} {k : Nat} {rem : List Nat}, Agree k rem vs us → vs.length = us.length ∧ ∀ y, (k + y) ∉ rem → vs.getD y .any = us.getD y .any
  | [], [], k, rem, _ => ⟨rfl, fun _ _ => rfl⟩
  | v :: vs, u :: us, k, rem, h => by
    obtain ⟨h1, h2⟩ := h
    obtain ⟨g1, g2⟩ := Agree.spec h2
    refine ⟨by simp [g1], fun y hy => ?_⟩
    cases y with
    | zero =>
      rcases h1 with h1 | h1
      · exact absurd (memN_iff.1 h1) (by simpa using hy)
      · simp [h1]
    | succ y => simpa using g2 y (by rw [show k + 1 + y = k + (y + 1) by omega]; exact hy)
  | [], u :: us, _, _, h => h.elim
  | v :: vs, [], _, _, h => h.elim
def RestOK (P : Program) (ops : Array Oper) (af : AF) (ae : AH) (us : List AV) : List Nat → Prop
  | [] => True
  | i :: l => (∃ o, ops[i]? = some o ∧ o.guard = none ∧ AOp P o (keep (oslots ops o) (frameOf ops us af (down i))) ae (D (us.getD i .any) ae)) ∧ RestOK P ops af ae us l
theorem RestOK.mem {P : Program} {ops : Array Oper} {af : AF} {ae : AH} {us : List AV} : ∀ {l : List Nat}, RestOK P ops af ae us l → ∀ i ∈ l, ∃ o, ops[i]? = some o ∧ o.guard = none ∧ AOp P o (keep (oslots ops o) (frameOf ops us af (down i))) ae (D (us.getD i .any) ae)
  | [], _, i, h => by cases h
  | j :: l, h, i, hi => by
    rcases List.mem_cons.1 hi with rfl | hi
    · exact h.1
    · exact RestOK.mem h.2 i hi
section
variable {C : Cx} {ds : List Deferred} {ks : List K} {ops : Array Oper} {af : AF} {aq : AH}
theorem AX.rest_core {ae : AH} {us : List AV} (hd : drawOK ops = true) (hk : AW C ds ks (frameOf ops us af (down ops.size)) (ae ++ aq)) : ∀ (n : Nat) (rem : List Nat) (vs : List AV), rem.length = n → rem.Nodup → (∀ i ∈ rem, i < ops.size ∧ i < vs.length) →
    (∀ y, y ∉ rem → vs.getD y .any = us.getD y .any) → (∀ i ∈ rem, ∃ o, ops[i]? = some o ∧ o.guard = none ∧ AOp C.P o (keep (oslots ops o) (frameOf ops us af (down i))) ae (D (us.getD i .any) ae)) → AX C ds ks ops af aq n rem vs ae := by
  intro n
  induction n with
  | zero =>
    intro rem vs hl hn hlt hag hq
    obtain rfl := List.length_eq_zero_iff.1 hl
    refine AW.weaken hk fun s v hs => ?_
    rw [get_frameOf] at hs ⊢
    cases hw : wr ops s (down ops.size) with
    | none => rw [hw] at hs; exact hs
    | some x => rw [hw] at hs; simp only at hs ⊢; rw [hag x (by simp)]; exact hs
  | succ n ih =>
    intro rem vs hl hn hlt hag hq i hi hready
    obtain ⟨o, ho, hg, hop⟩ := hq i hi
    have hkeep : keep (oslots ops o) (frameOf ops vs af (down i)) = keep (oslots ops o) (frameOf ops us af (down i)) := by
      refine keep_congr fun s hs => ?_
      rw [get_frameOf, get_frameOf]
      cases hw : wr ops s (down i) with
      | none => rfl
      | some y =>
        simp only
        obtain ⟨l1, l2, e, hy, _⟩ := wr_some hw
        have hyi : y < i := mem_down.1 (by rw [e]; simp)
        have hcl := drawOK_clash hd hyi (hlt i hi).1 (clash_comm (clash_slot ho hs hy))
        have hyr : y ∉ rem := fun hm => by rw [hready y hm] at hcl; cases hcl
        rw [hag y hyr]
    refine ⟨o, ho, .inr ⟨by simp [gdo, hg], D (us.getD i .any) ae, hkeep ▸ hop, ?_, ?_⟩⟩
    · rintro v h ⟨e, rfl⟩
      injection e with e
      subst e
      refine ih (rem.erase i) _ (by rw [List.length_erase_of_mem hi, hl]; rfl) (hn.erase i) (fun j hj => ?_) (fun y hy => ?_) (fun j hj => hq j (List.mem_of_mem_erase hj))
      · have := hlt j (List.mem_of_mem_erase hj); simpa using this
      · by_cases e : i = y
        · subst e
          rw [List.getD_eq_getElem?_getD, List.getElem?_set_self (hlt i hi).2]; rfl
        · rw [getD_set_ne e]
          exact hag y fun hm => hy ((hn.mem_erase_iff).2 ⟨fun h => e h.symm, hm⟩)
    · rintro v h ⟨e, _⟩; cases e
theorem AX.rest {ae : AH} {n : Nat} {rem : List Nat} {vs : List AV} (us : List AV) (af' : AF) (hd : drawOK ops = true) (hr : okE rem ops.size = true) (hn : Nat.beq rem.length n = true) (hvl : Nat.beq us.length ops.size = true) (hag : Agree 0 rem vs us) (hq : RestOK C.P ops af ae us rem)
    (he : keep (af'.map (·.1)) (frameOf ops us af (down ops.size)) = af') (k : AW C ds ks af' (ae ++ aq)) : AX C ds ks ops af aq n rem vs ae := by
  obtain ⟨g1, g2⟩ := hag.spec
  obtain ⟨h1, h2⟩ := okE_iff hr
  refine AX.rest_core hd (AW.weaken k fun i v hi => get_keep (he ▸ hi)) n rem vs (by simpa using hn) h1 (fun i hi => ⟨h2 i hi, ?_⟩) (fun y hy => g2 y (by simpa using hy)) hq.mem
  have := h2 i hi
  have hv : us.length = ops.size := by simpa using hvl
  omega
end
section
variable {C : Cx} {ds : List Deferred} {ks : List K} {af : AF} {aq ae : AH} {ops : Array Oper} {n : Nat} {rem : List Nat} {vs : List AV} {q : Nat}
structure AXO (C : Cx) (ds : List Deferred) (ks : List K) (ops : Array Oper) (af : AF) (aq : AH) (n : Nat) (rem : List Nat) (vs : List AV) (ae : AH) (q : Nat) (o : Oper) (f : AF) : Prop where
  out : ∃ Φ : AEnd → AH → Prop, AOp C.P o f ae Φ ∧ (∀ v h, Φ (.ret v) h → AX C ds ks ops af aq n (rem.erase q) (vs.set q v) h) ∧ (∀ v h, Φ (.pan v) h → APan C ds v (h ++ aq))
theorem AXS.at {o : Oper} {f : AF} (ho : ops[q]? = some o) (hkp : keep (oslots ops o) (frameOf ops vs af (down q)) = f) (h : AXO C ds ks ops af aq n rem vs ae q o f) (hg : o.guard = none := by exact rfl) : AXS C ds ks ops af aq n rem vs ae q := by
  obtain ⟨Φ, h1, h2, h3⟩ := h.out
  exact AXS.step ho hg hkp h1 h2 h3
theorem AX.o (q : Nat) {o : Oper} {f : AF} (h : AXO C ds ks ops af aq n rem vs ae q o f) (ho : ops[q]? = some o := by exact rfl) (hkp : keep (oslots ops o) (frameOf ops vs af (down q)) = f := by exact rfl) (hg : o.guard = none := by exact rfl) (hr : readyL ops rem = [q] := by kernel_rfl) : AX C ds ks ops af aq (n + 1) rem vs ae := AX.one q hr (AXS.at ho hkp h hg)
theorem AX.at (q : Nat) (hr : readyL ops rem = [q]) {o : Oper} {f : AF} (ho : ops[q]? = some o) (hkp : keep (oslots ops o) (frameOf ops vs af (down q)) = f) (hg : o.guard = none) (h : AXO C ds ks ops af aq n rem vs ae q o f) : AX C ds ks ops af aq (n + 1) rem vs ae := AX.one q hr (AXS.at ho hkp h hg)
theorem AX.done_keep (is : List Nat) (k : AW C ds ks (keep is (frameOf ops vs af (down ops.size))) (ae ++ aq)) : AX C ds ks ops af aq 0 rem vs ae := AW.weaken k fun i v hi => get_keep hi
variable {o : Oper} {f : AF}
theorem AXO.d {v : AV} {ae' : AH} (h : AOp C.P o f ae (D v ae')) (hk : AX C ds ks ops af aq n (rem.erase q) (vs.set q v) ae') : AXO C ds ks ops af aq n rem vs ae q o f :=
  ⟨_, h, by rintro v' h' ⟨e, rfl⟩; injection e with e; subst e; exact hk, by rintro v' h' ⟨e, _⟩; cases e⟩
theorem AXO.e {v : AV} (hk : AX C ds ks ops af aq n (rem.erase q) (vs.set q v) ae) (h : evalOp f o.op = some v := by exact rfl) : AXO C ds ks ops af aq n rem vs ae q o f := .d (AOp.ev h) hk
theorem AXO.append {x y : Operand} {xs ys : List AV} {tb : Option Nat} {tc i e sz bytes dd : Nat} {v : AV} {t t2 T : TypeId} {ps : String} {es : Array Edge} (hx : aeval f x = some (.slt xs tb tc)) (hi : ae[i]? = some (.tail tb xs.length tc sz)) (hy : aeval f y = some v) (hs : srcOf v = some ys)
    (ht : appTy C.P t = some (e, sz, bytes)) (ht2 : isSlTy C.P t2 = true) (hxs : ∀ x ∈ xs, x.size = sz) (hys : ∀ y ∈ ys, y.size = sz) (hok : AV.cellsOK ys = true) (hb : (xs.length + ys.length) * bytes ≤ 140737488355328) (h63 : xs.length + ys.length ≤ 9223372036854775807) (hn : Nat.blt dd C.n = true)
    (hk : ∀ b' c', AX C ds ks ops af aq n (rem.erase q) (vs.set q (.slt (xs ++ ys) b' c')) (ae.set i (.tail b' (xs ++ ys).length c' sz))) : AXO C ds ks ops af aq n rem vs ae q ⟨some dd, .call ⟨.builtin .append, #[x, y], #[t, t2]⟩, T, ps, es, none⟩ f :=
  ⟨_, AOp.append hx hi hy hs ht ht2 hxs hys hok hb h63, by rintro _ _ ⟨b', c', e, rfl⟩; injection e with e; subst e; exact hk b' c', by rintro _ _ ⟨b', c', e, _⟩; cases e⟩
theorem AXO.lit_own {t T e sz k dd : Nat} {parts : Array (Nat × Operand)} {xs : List Operand} {us : List AV} {ps : String} {es : Array Edge} (ht : litTy C.P t = some (e, sz)) (hp : litOps 0 parts.toList = some xs) (hx : aevals f xs = some us) (hn : us.length = k) (hsz : ∀ v ∈ us, v.size = sz) (hb : k * sz ≤ 16777216)
    (hk : ∀ b, AX C ds ks ops af aq n (rem.erase q) (vs.set q (.slt us (some b) k)) (.tail (some b) k k sz :: ae)) : AXO C ds ks ops af aq n rem vs ae q ⟨some dd, .buildSlice t k parts, T, ps, es, none⟩ f :=
  ⟨_, AOp.lit_own ht hp hx hn hsz hb, by rintro _ _ ⟨b, e, rfl⟩; injection e with e; subst e; exact hk b, by rintro _ _ ⟨b, e, _⟩; cases e⟩
theorem AXO.makeSlice {x y : Operand} {k dd : Nat} {t e bytes T : TypeId} {c : Value} {z : AV} {ps : String} {es : Array Edge} (hx : aeval f x = some (.int .i64 k)) (hy : aeval f y = some (.int .i64 k)) (ht : rowTy C.P t = some (e, c, bytes)) (hz : z.flat = some [c]) (hb : k * bytes ≤ 16777216) (hn : k ≤ 16777216)
    (hk : ∀ b, AX C ds ks ops af aq n (rem.erase q) (vs.set q (.osl b k k)) (.row b (List.replicate k z) :: ae)) : AXO C ds ks ops af aq n rem vs ae q ⟨some dd, .makeSlice t x y, T, ps, es, none⟩ f :=
  ⟨_, AOp.makeSlice hx hy ht hz hb hn, by rintro _ _ ⟨b, e, rfl⟩; injection e with e; subst e; exact hk b, by rintro _ _ ⟨b, e, _⟩; cases e⟩
theorem AXO.callQ {d : Option Tmp} {T : TypeId} {ps : String} {es : Array Edge} {fid : FuncId} {y : Operand} {caps : List AV} {xs : Array Operand} {tys : Array TypeId} {args : List AV} {Φ : AEnd → AH → Prop} (hy : aeval f y = some (.fn fid caps)) (hx : aevals f xs.toList = some args)
    (h : Tri C.P fid (args ++ caps) ae Φ) (hd : okDst d C.n = true) (hk : ∀ v ae', Φ (.ret v) ae' → AX C ds ks ops af aq n (rem.erase q) (vs.set q v) ae') (hp : ∀ v ae', Φ (.pan v) ae' → APan C ds v (ae' ++ aq)) :
    AXO C ds ks ops af aq n rem vs ae q ⟨d, .call ⟨.value y, xs, tys⟩, T, ps, es, none⟩ f := ⟨_, AOp.call hy hx h, hk, hp⟩
theorem AXO.store_leaf (i : Nat) {x y : Operand} {b off : Nat} {c c' v : AV} {t T : TypeId} {ps : String} {es : Array Edge} (hx : aeval f x = some (.ref b off)) (hy : aeval f y = some v) (hi : ae[i]? = some (.box b c)) (hs : c.upd off v = some c') (hok : v.cellOK = true)
    (ht : tkind C.P t = some (v.isSt, v.size)) (hk : ∀ u, AX C ds ks ops af aq n (rem.erase q) (vs.set q u) (ae.set i (.box b c'))) : AXO C ds ks ops af aq n rem vs ae q ⟨none, .store t x y, T, ps, es, none⟩ f :=
  ⟨_, AOp.store_box hx hy hi hs hok ht, by rintro v h ⟨_, rfl⟩; exact hk v, by rintro _ _ ⟨⟨_, e⟩, _⟩; cases e⟩
theorem AXO.sl (i : Nat) {x y : Operand} {b off : Nat} {c c' v : AV} {t T : TypeId} {ps : String} {es : Array Edge} (hk : ∀ u, AX C ds ks ops af aq n (rem.erase q) (vs.set q u) (ae.set i (.box b c'))) (hx : aeval f x = some (.ref b off) := by exact rfl) (hy : aeval f y = some v := by exact rfl) (hi : ae[i]? = some (.box b c) := by exact rfl) (hs : c.upd off v = some c' := by exact rfl) (hok : v.cellOK = true := by exact rfl)
    (ht : tkind C.P t = some (v.isSt, v.size) := by kernel_rfl) : AXO C ds ks ops af aq n rem vs ae q ⟨none, .store t x y, T, ps, es, none⟩ f := .store_leaf i hx hy hi hs hok ht hk
theorem AXO.store_cell (i : Nat) {x y : Operand} {b off : Nat} {xs : List AV} {v : AV} {t T : TypeId} {ps : String} {es : Array Edge} (hx : aeval f x = some (.ref b off)) (hy : aeval f y = some v) (hi : ae[i]? = some (.row b xs)) (hs : off < xs.length) (hok : v.cellOK = true) (hz : v.size = 1)
    (ht : tkind C.P t = some (v.isSt, v.size)) (hk : ∀ u, AX C ds ks ops af aq n (rem.erase q) (vs.set q u) (ae.set i (.row b (xs.set off v)))) : AXO C ds ks ops af aq n rem vs ae q ⟨none, .store t x y, T, ps, es, none⟩ f :=
  ⟨_, AOp.store_row hx hy hi hs hok hz ht, by rintro v h ⟨_, rfl⟩; exact hk v, by rintro _ _ ⟨⟨_, e⟩, _⟩; cases e⟩
end
section
variable {C : Cx} {ds : List Deferred} {ks : List K} {af : AF} {ah : AH}
theorem AW.ex {ops : Array Oper} {ks0 : List K} (id : Nat) (m : List Bool) (E : List Nat) (h : AQE C.P ops (uns m ah) (sel m ah ++ uns m ah) E 0 ops.toList af (fun vs => AX C ds ks ops af (uns m ah) E.length E vs (sel m ah))) (hc : ctlN 99 af ks0 = .c (.region id ops true) :: ks := by exact rfl) (hm : C.P.follows .mixedOrders = true := by exact rfl) (hd : drawOK ops = true := by kernel_rfl) (hn : ops.toList.all (fun o => okDst o.dst C.n) = true := by kernel_rfl) (hqo : quietOK ops E = true := by kernel_rfl) (hE : okE E ops.size = true := by kernel_rfl) : AW C ds ks0 af ah := AW.ctl 99 ks0 (by rw [hc]; exact AW.explore m E hm hd hn hqo hE h)
end
section
variable {P : Program} {ops : Array Oper} {aq aa : AH} {E : List Nat} {n : Nat} {af af' : AF} {K : List AV → Prop} {rest : List Oper} {o : Oper}
theorem AQE.p {v : AV} {d : Nat} (hkp : keep (oslots ops o) af = af') (h : AOp P o af' aq (D v aq)) (k : AQE P ops aq aa E (n + 1) rest ((d, v) :: af) (fun us => K (v :: us))) (hg : o.guard = none := by exact rfl) (hd : o.dst = some d := by exact rfl) : AQE P ops aq aa E n (o :: rest) af K := AQE.op hkp h hg hd k
theorem AQE.pe {v : AV} {d : Nat} (hkp : keep (oslots ops o) af = af') (h : AOp P o af' aa (D v aa)) (k : AQE P ops aq aa E (n + 1) rest ((d, v) :: af) (fun us => K (v :: us))) (hg : o.guard = none := by exact rfl) (hd : o.dst = some d := by exact rfl) (he : earlyB ops E n = true := by kernel_rfl) : AQE P ops aq aa E n (o :: rest) af K := AQE.early he hkp h hg hd k
theorem AQE.e {v : AV} {d : Nat} (k : AQE P ops aq aa E (n + 1) rest ((d, v) :: af) (fun us => K (v :: us))) (hkp : keep (oslots ops o) af = af' := by exact rfl) (h : evalOp af' o.op = some v := by exact rfl) (hg : o.guard = none := by exact rfl) (hd : o.dst = some d := by exact rfl) : AQE P ops aq aa E n (o :: rest) af K := AQE.ev hkp h hg hd k
theorem AQE.gp {v : AV} {d : Nat} (hkp : keep (oslots ops o) af = af') (h : AOp P o af' aq (D v aq)) (k : AQE P ops aq aa E (n + 1) rest ((d, v) :: af) (fun us => K (v :: us))) (hg : gdo ops af' o = some true := by exact rfl) (hd : o.dst = some d := by exact rfl) : AQE P ops aq aa E n (o :: rest) af K := AQE.gop hkp h hg hd k
theorem AQE.k {d : Nat} (k : AQE P ops aq aa E (n + 1) rest ((d, .tup []) :: af) (fun us => K (.tup [] :: us))) (hkp : keep (oslots ops o) af = af' := by exact rfl) (hg : gdo ops af' o = some false := by exact rfl) (hd : o.dst = some d := by exact rfl) : AQE P ops aq aa E n (o :: rest) af K := AQE.skip hkp hg hd k
theorem AQE.hl (k : AQE P ops aq aa E (n + 1) rest af' (fun us => K (.any :: us))) (he : memN n E = true := by exact rfl) (hp : put af o.dst .any = af' := by exact rfl) : AQE P ops aq aa E n (o :: rest) af K := AQE.hole he hp k
end
section
variable {P : Program} {af : AF} {ah : AH} {d : Option Tmp} {T : TypeId} {ps : String} {es : Array Edge} {gd : Option (Nat × Bool)}
theorem AOp.makeSlice_ro {x y : Operand} {n : Nat} {t e bytes : Nat} {c : Value} {z : AV} (hx : aeval af x = some (.int .i64 n)) (hy : aeval af y = some (.int .i64 n)) (ht : rowTy P t = some (e, c, bytes)) (hz : z.flat = some [c]) (hzs : z.size = 1) (hb : n * bytes ≤ 16777216) (hn : n ≤ 16777216) :
    AOp P ⟨d, .makeSlice t x y, T, ps, es, gd⟩ af ah (D (.sl (List.replicate n z)) ah) := .mk fun Fr a w hst hf => by
  have h := (AOp.makeSlice (d := d) (T := T) (ps := ps) (es := es) (gd := gd) hx hy ht hz hb hn).out Fr a w hst hf
  refine Out.mono (fun e w' he => ?_) h
  obtain ⟨v, ah', ⟨b, rfl, rfl⟩, ⟨u, rfl, hu⟩, hst', hx', hn'⟩ := he
  obtain ⟨hue, hl1, hl2⟩ := hu.osl
  have hb : OwnRel (Sof Fr (.row b (List.replicate n z) :: ah)) w' (.row b (List.replicate n z)) := hst'.rel (.row b (List.replicate n z)) List.mem_cons_self
  have hsub : St Fr ah w' := hst'.sub (List.sublist_cons_self _ _)
  have hsof : ∀ b' o, Sof Fr ah b' o → Sof Fr (.row b (List.replicate n z) :: ah) b' o := fun b' o h => h.imp id fun ⟨y, hy, hr⟩ => ⟨y, List.mem_cons_of_mem _ hy, hr⟩
  have hno : ∀ o, ¬ Sof Fr ah b o := by
    rintro o (hF | ⟨y, hy, hr⟩)
    · exact hst'.fr (.row b (List.replicate n z)) List.mem_cons_self b rfl o hF
    · have hnd := hst'.nodup
      rw [List.filterMap_cons] at hnd
      have hnd' : (b :: ah.filterMap Own.blk).Nodup := hnd
      exact (List.nodup_cons.1 hnd').1 (List.mem_filterMap.2 ⟨y, hy, reg_blk hr⟩)
  refine ⟨_, _, ⟨rfl, rfl⟩, ⟨u, rfl, ?_, ?_⟩, hsub, hx', fun b' o hb' hr => hr⟩
  · rw [hue]
    show RelC _ _ (.sl (List.replicate n z)) [_]
    simp only [RelC]
    obtain ⟨cs, t', hh, hr⟩ := hb
    refine ⟨_, n, by rw [List.length_replicate], by rw [List.length_replicate]; exact Nat.le_refl _, hl2, fun _ => ⟨b, 0, 1, rfl, ?_⟩⟩
    have key : ∀ (l : List AV) (o : Nat), (∀ (k : Nat) x, l[k]? = some x → ∃ v, cs[o + k]? = some v ∧ RelC (Sof Fr (.row b (List.replicate n z) :: ah)) w' x [v]) → RelRow (Sof Fr ah) w' l 1 b o := by
      intro l
      induction l with
      | nil => intro o _; simp [RelRow]
      | cons x l ih =>
        intro o h
        simp only [RelRow]
        obtain ⟨v, hv, hrv⟩ := h 0 x rfl
        refine ⟨⟨[v], rfl, RelC.mv (Mv.same w' hsof) _ _ hrv, fun j u hj => ?_⟩, ih (o + 1) fun k y hk => ?_⟩
        · cases j with
          | zero => simp only [List.getElem?_cons_zero, Option.some.injEq] at hj; subst hj; exact ⟨hno _, by rw [cell_of_row w' b _ cs t' (0, 0) hh]; exact hv⟩
          | succ j => simp at hj
        · obtain ⟨v, hv, hrv⟩ := h (k + 1) y (by simpa using hk)
          exact ⟨v, by rw [show o + 1 + k = o + (k + 1) by omega]; exact hv, hrv⟩
    exact key _ 0 fun k x hk => by rw [Nat.zero_add]; exact hr k x hk
  · rw [hue]; simp [Shape]
end
section
variable {C : Cx} {ds : List Deferred} {ks : List K} {af : AF} {ah : AH}
theorem AW.recast (i : Nat) {b : Nat} {c c' : AV} (hi : ah[i]? = some (.box b c)) (hc : ∀ S w cs, RelC S w c cs → RelC S w c' cs) (k : AW C ds ks af (ah.set i (.box b c'))) : AW C ds ks af ah := .mk fun a w g => by
  have hs := g.st.update (w' := w) (x' := .box b c') hi (Ext.refl _ _) (fun b' h => .inl h) (fun b' o _ h => h) (fun b' h => g.st.lt _ (List.mem_of_getElem? hi) b' h) (fun m => by
    obtain ⟨cs, t, h1, h2⟩ := g.st.rel _ (List.mem_of_getElem? hi)
    exact ⟨cs, t, h1, hc _ _ _ (RelC.mv m _ _ h2)⟩)
  have hreg : ∀ b' o, reg (ah.set i (.box b c')) b' o → reg ah b' o := by
    rintro b' o ⟨y, hy, hr⟩
    rcases List.mem_or_eq_of_mem_set hy with hy | rfl
    · exact ⟨y, hy, hr⟩
    · exact ⟨_, List.mem_of_getElem? hi, hr⟩
  exact k.out a w ⟨g.size, g.defers, hs.1, g.ext, fun b' o hb h => g.old b' o hb (hreg b' o h), AFRel.mv (Mv.same w fun b' o h => h.imp id (hreg b' o)) g.fr⟩
theorem nil_slt (S : Rg) (w : World) (cs : List Value) (h : RelC S w nilS cs) : RelC S w (.slt [] none 0) cs := by
  simp only [nilS, RelC, Value.cells] at h
  simp only [RelC]
  exact ⟨by simpa using h, by simp, by simp [maxLen], by simp⟩
theorem slt_sl {xs : List AV} {b : Option Nat} {n : Nat} (S : Rg) (w : World) (cs : List Value) (h : RelC S w (.slt xs b n) cs) : RelC S w (.sl xs) cs := by
  simp only [RelC] at h ⊢
  obtain ⟨h1, h2, h3, h4⟩ := h
  exact ⟨_, n, h1, h2, h3, fun hne => by obtain ⟨b', sz, rfl, hr⟩ := h4 hne; exact ⟨b', 0, sz, rfl, hr⟩⟩
theorem rel_last {S : Rg} {w : World} {x y z : AV} {cs : List Value} (h : RelC S w (.st [x, y]) cs) (k : ∀ cs, RelC S w y cs → RelC S w z cs) : RelC S w (.st [x, z]) cs := by
  simp only [RelC] at h ⊢
  rw [RelCs] at h ⊢
  obtain ⟨c1, c2, e1, h1, h2⟩ := h
  rw [RelCs] at h2
  obtain ⟨c3, c4, e2, h3, h4⟩ := h2
  exact ⟨c1, c2, e1, h1, by rw [RelCs]; exact ⟨c3, c4, e2, k _ h3, h4⟩⟩
end
section
variable {P : AV → Prop} {a b : List AV} {y : AV} {n : Nat}
theorem P_nil : ∀ x ∈ ([] : List AV), P x := fun x h => by cases h
theorem P_app (h : ∀ x ∈ a, P x) (k : ∀ x ∈ b, P x) : ∀ x ∈ a ++ b, P x := fun x hx => (List.mem_append.1 hx).elim (h x) (k x)
theorem P_take (h : ∀ x ∈ a, P x) : ∀ x ∈ a.take n, P x := fun x hx => h x (List.mem_of_mem_take hx)
theorem P_drop (h : ∀ x ∈ a, P x) : ∀ x ∈ a.drop n, P x := fun x hx => h x (List.mem_of_mem_drop hx)
theorem P_one (h : P y) : ∀ x ∈ [y], P x := fun x hx => List.mem_singleton.1 hx ▸ h
theorem P_rep (h : P y) : ∀ x ∈ List.replicate n y, P x := fun x hx => (List.mem_replicate.1 hx).2 ▸ h
theorem P_map {α : Type} {g : α → AV} {l : List α} (h : ∀ z, P (g z)) : ∀ x ∈ l.map g, P x := fun x hx => by obtain ⟨z, _, rfl⟩ := List.mem_map.1 hx; exact h z
theorem ok_all : ∀ {a : List AV}, (∀ x ∈ a, x.cellOK = true) → AV.cellsOK a = true
  | [], _ => rfl
  | x :: a, h => by rw [AV.cellsOK, h x (by simp), ok_all fun y hy => h y (by simp [hy])]; rfl
end
theorem sizes_one : ∀ {fs : List AV}, (∀ y ∈ fs, y.size = 1) → AV.sizes fs = fs.length
  | [], _ => rfl
  | y :: fs, h => by rw [AV.sizes, h y (by simp), sizes_one fun z hz => h z (by simp [hz]), List.length_cons]; omega
section
variable {P : Program} {af : AF} {ah : AH} {d : Option Tmp} {T : TypeId} {ps : String} {es : Array Edge} {gd : Option (Nat × Bool)}
theorem row_size {S : Rg} {w : World} {b : Nat} {xs : List AV} {cs : Array Value} (hr : ∀ (i : Nat) x, xs[i]? = some x → ∃ v, cs[i]? = some v ∧ RelC S w x [v]) : xs.length ≤ cs.size := by
  rcases Nat.eq_zero_or_pos xs.length with h | h
  · omega
  · obtain ⟨v, hv, _⟩ := hr (xs.length - 1) xs[xs.length - 1] (List.getElem?_eq_getElem (by omega))
    have := (Array.getElem?_eq_some_iff.1 hv).1
    omega
theorem row_read {w w' : World} {b n c sz m : Nat} {cs : Array Value} {tt : TypeId} (hh : w.heap[b]? = some (.cells cs tt (0, 0))) (hw : w'.heap = w.heap) (hm : m * sz ≤ cs.size) :
    (Builtin.firstCells sz m (.slice (some ⟨b, 0, none⟩) n c)).run P w' = .ok (cs.toList.take (m * sz)).toArray w' := by
  simp only [Builtin.firstCells, loadCells]
  rw [run_loadCellsFrom _ 0 (cs.toList.take (m * sz)) #[] (by simp; omega) (fun k v hk => by
    rw [addr_add, cell_of_row w' b _ cs tt (0, 0) (by rw [hw]; exact hh)]
    rw [List.getElem?_take] at hk
    split at hk
    · simpa using hk
    · cases hk)]
  simp
theorem src_one {S : Rg} {w w' : World} {fs : List AV} {A : Option Addr} {c sz : Nat} (h : ([AV.st fs] : List AV) ≠ [] → ∃ b o sz, A = some ⟨b, o, none⟩ ∧ RelRow S w [AV.st fs] sz b o) (hf1 : ∀ y ∈ fs, y.size = 1) (hsz : fs.length = sz) (hw : w'.heap = w.heap) :
    ∃ ds : List Value, (Builtin.firstCells sz 1 (.slice A 1 c)).run P w' = .ok ds.toArray w' ∧ RelCs S w fs ds ∧ ds.length = sz := by
  obtain ⟨ds, h1, h2, h3⟩ := run_first (P := P) (w' := w') (c := c) (sz := sz) h (by intro y hy; rw [List.mem_singleton.1 hy]; simp only [AV.size]; rw [sizes_one hf1, hsz]) hw
  refine ⟨ds, h1, ?_, by simpa using h3⟩
  rw [RelCs] at h2
  obtain ⟨c1, c2, e, k1, k2⟩ := h2
  rw [RelCs] at k2
  subst k2
  rw [RelC] at k1
  rw [e, List.append_nil]
  exact k1
end
section
variable {C : Cx} {ds : List Deferred} {ks : List K} {af : AF} {aq ae : AH} {ops : Array Oper} {n : Nat} {rem : List Nat} {vs : List AV} {q : Nat} {f : AF}
end
section
variable {C : Cx} {ds : List Deferred} {ks : List K} {af : AF} {ah : AH}
end
section
variable {C : Cx} {ds : List Deferred} {ks : List K} {af : AF} {ah : AH}
end
section
variable {S : Rg} {w : World}
end
section
variable {C : Cx} {ds : List Deferred} {ks : List K} {af : AF} {aq ae : AH} {ops : Array Oper} {n : Nat} {rem : List Nat} {vs : List AV} {q : Nat} {f : AF}
theorem AXO.box {dd : Nat} {x : Operand} {v : AV} {t T : TypeId} {ps : String} {es : Array Edge} (hx : aeval f x = some v) (hv : v.isAny = false) (hk : ∀ b, AX C ds ks ops af aq n (rem.erase q) (vs.set q (.ref b 0)) (.box b v :: ae)) : AXO C ds ks ops af aq n rem vs ae q ⟨some dd, .box t x, T, ps, es, none⟩ f :=
  ⟨_, AOp.box hx hv, by rintro _ _ ⟨b, e, rfl⟩; injection e with e; subst e; exact hk b, by rintro _ _ ⟨b, e, _⟩; cases e⟩
end
section
variable {P : Program} {af : AF} {ah : AH} {d : Option Tmp} {T : TypeId} {ps : String} {es : Array Edge} {gd : Option (Nat × Bool)}
end
section
variable {P : Program} {fn : Func} {n : Nat} {Fr R0 : Rg} {w0 : World} {Φ : AEnd → AH → Prop} {ks : List K} {af : AF} {ah : AH} {ds : List Deferred}
end
section
variable {P : Program} {af : AF} {ah : AH} {d : Option Tmp} {T : TypeId} {ps : String} {es : Array Edge} {gd : Option (Nat × Bool)}
end
structure Stk where
  b : Nat
  l : List Int
  tl : List AV
def Stk.av (t : Stk) : AV := .osl t.b (t.l.map iav).length ((t.l.map iav).length + t.tl.length)
def Stk.row (t : Stk) : Own := .row t.b (t.l.map iav ++ t.tl)
theorem look_setA {α : Type} (F : List (ByteArray × α)) (k k' : ByteArray) (v : α) : lookA (setA F k v) k' = if k' = k then some v else lookA F k' := by
  induction F with
  | nil => simp only [setA, lookA]
  | cons p F ih =>
    obtain ⟨q, u⟩ := p
    rw [setA]
    by_cases e : k = q
    · subst e; rw [if_pos rfl]; simp only [lookA]; split <;> rfl
    · rw [if_neg e]; simp only [lookA, ih]
      by_cases e2 : k' = q
      · rw [if_pos e2, if_pos e2, if_neg (fun h => e (h.symm.trans e2))]
      · rw [if_neg e2, if_neg e2]
section
variable {P : Program} {af : AF} {ah : AH} {d : Option Tmp} {T : TypeId} {ps : String} {es : Array Edge} {gd : Option (Nat × Bool)}
end
section
variable {C : Cx} {ds : List Deferred} {ks : List K} {af : AF} {ah : AH} {ops : Array Oper} {rest : List Oper}
theorem AL.lit_own {t T e sz k dd : Nat} {parts : Array (Nat × Operand)} {xs : List Operand} {us : List AV} {ps : String} {es : Array Edge} (ht : litTy C.P t = some (e, sz)) (hp : litOps 0 parts.toList = some xs) (hx : aevals af xs = some us) (hn : us.length = k) (hsz : ∀ v ∈ us, v.size = sz) (hb : k * sz ≤ 16777216) (hd : Nat.blt dd C.n = true)
    (hk : ∀ b, AL C ds ks ops rest ((dd, .slt us (some b) k) :: af) (.tail (some b) k k sz :: ah)) : AL C ds ks ops (⟨some dd, .buildSlice t k parts, T, ps, es, none⟩ :: rest) af ah :=
  AL.step rfl hd (AOp.lit_own ht hp hx hn hsz hb) (by rintro _ _ ⟨b, e, rfl⟩; injection e with e; subst e; exact hk b) (by rintro _ _ ⟨b, e, _⟩; cases e)
end
section
variable {P : Program} {af : AF} {ah : AH} {d : Option Tmp} {T : TypeId} {ps : String} {es : Array Edge} {gd : Option (Nat × Bool)}
end
def Wk (c c' : AV) : Prop := ∀ (S : Rg) (w : World) (cs : List Value), RelC S w c cs → RelC S w c' cs
def Wks (c c' : List AV) : Prop := ∀ (S : Rg) (w : World) (cs : List Value), RelCs S w c cs → RelCs S w c' cs
theorem Wk.refl (c : AV) : Wk c c := fun _ _ _ h => h
theorem Wk.slt {xs : List AV} {b : Option Nat} {c : Nat} : Wk (.slt xs b c) (.sl xs) := fun S w cs h => slt_sl _ _ _ h
theorem Wks.nil : Wks [] [] := fun _ _ _ h => h
theorem Wks.cons {x y : AV} {xs ys : List AV} (h : Wk x y) (k : Wks xs ys) : Wks (x :: xs) (y :: ys) := fun S w cs hr => by
  rw [RelCs] at hr ⊢
  obtain ⟨c1, c2, e, h1, h2⟩ := hr
  exact ⟨c1, c2, e, h S w _ h1, k S w _ h2⟩
theorem Wk.st {xs ys : List AV} (h : Wks xs ys) : Wk (.st xs) (.st ys) := fun S w cs hr => by
  rw [RelC] at hr ⊢
  exact h S w cs hr
section
variable {C : Cx} {ds : List Deferred} {ks : List K} {af : AF} {ah : AH} {ops : Array Oper} {rest : List Oper}
end
section
variable {P : Program} {af : AF} {ah : AH} {d : Option Tmp} {T : TypeId} {ps : String} {es : Array Edge} {gd : Option (Nat × Bool)}
end
section
variable {C : Cx} {ds : List Deferred} {ks : List K} {af : AF} {ah : AH} {ops : Array Oper} {rest : List Oper}
end
theorem Tri.forget {P : Program} {f : FuncId} {args xs : List AV} {ah : AH} (h : Tri P f args ah (fun x h => ∃ b c n sz, x = .ret (.slt xs b c) ∧ h = [.tail b n c sz])) : Tri P f args ah (D (.sl xs) []) :=
  ⟨h.1, fun Fr w vs hst hrel => (h.2 Fr w vs hst hrel).mono fun e w' ⟨x, ah', ⟨b, c, n, sz, hx, hah⟩, he, hst', hext, hnew⟩ => by
    subst hx hah
    obtain ⟨v, rfl, hv⟩ := he
    refine ⟨.ret (.sl xs), [], ⟨rfl, rfl⟩, ⟨v, rfl, ?_⟩, hst'.sub (List.nil_sublist _), hext, fun b o _ h => by obtain ⟨_, h, _⟩ := h; cases h⟩
    exact (Rel.as_sl hv).mv (Mv.same w' fun b o h => h.elim .inl fun ⟨_, hx, _⟩ => by cases hx)⟩
section
variable {P : Program} {af : AF} {ah : AH} {d : Option Tmp} {T : TypeId} {ps : String} {es : Array Edge} {gd : Option (Nat × Bool)}
end
section
variable {P : Program} {af : AF} {ah : AH}
variable {d : Option Tmp} {T : TypeId} {ps : String} {es : Array Edge} {gd : Option (Nat × Bool)}
end
section
variable {C : Cx} {ds : List Deferred} {ks : List K} {af : AF} {ah : AH} {ops : Array Oper} {rest : List Oper}
end
section
variable {C : Cx} {ds : List Deferred} {ks : List K} {af : AF} {ah : AH} {ops : Array Oper} {rest : List Oper}
end
section
variable {P : Program} {af : AF} {ah : AH}
variable {d : Option Tmp} {T : TypeId} {ps : String} {es : Array Edge} {gd : Option (Nat × Bool)}
def SrcC (P : Program) (af : AF) (ah : AH) (y : Operand) (m sz : Nat) (ys : List AV) : Prop := ∀ (Fr : Rg) (w : World) (a : Act), St Fr ah w → AFRel (Sof Fr ah) w af a → ∃ (A2 : Option Addr) (c2 : Nat), a.eval y = .slice A2 m c2 ∧
  ∀ w' : World, w'.heap = w.heap → ∃ news : List Value, (Builtin.firstCells sz m (.slice A2 m c2)).run P w' = .ok news.toArray w' ∧ RelCs (Sof Fr ah) w ys news ∧ news.length = m * sz
theorem SrcC.ro {y : Operand} {v : AV} {ys : List AV} (hy : aeval af y = some v) (hs : srcOf v = some ys) (h1 : ∀ y ∈ ys, y.size = 1) : SrcC P af ah y ys.length 1 ys := fun Fr w a hst hf => by
  obtain ⟨A2, c2, hu2, hl2', hm2, hrow2⟩ := srcOf_rel (aeval_rel hf hy) hs
  exact ⟨A2, c2, hu2, fun w' hw => by
    obtain ⟨news, hn1, hn2, hn3⟩ := run_first (P := P) (w' := w') (c := c2) (sz := 1) hrow2 h1 hw
    exact ⟨news, hn1, hn2, hn3⟩⟩
theorem SrcC.one {y : Operand} {fs : List AV} (hy : aeval af y = some (.sl [.st fs])) (h1 : ∀ y ∈ fs, y.size = 1) : SrcC P af ah y 1 fs.length fs := fun Fr w a hst hf => by
  obtain ⟨A2, c2, hu2, hl2', hm2, hrow2⟩ := srcOf_rel (aeval_rel hf hy) rfl
  exact ⟨A2, c2, hu2, fun w' hw => by
    obtain ⟨news, hn1, hn2, hn3⟩ := src_one (P := P) (w' := w') (c := c2) hrow2 h1 rfl hw
    exact ⟨news, hn1, hn2, by rw [hn3, Nat.one_mul]⟩⟩
theorem SrcC.own (j : Nat) {y : Operand} {b m c : Nat} {ys rest : List AV} (hy : aeval af y = some (.osl b m c)) (hj : ah[j]? = some (.row b (ys ++ rest))) (hm : ys.length = m) : SrcC P af ah y m 1 ys := fun Fr w a hst hf => by
  obtain ⟨hu2, hl1, hl2⟩ := (aeval_rel hf hy).osl
  obtain ⟨cs, tt, hh, hr⟩ := hst.rel _ (List.mem_of_getElem? hj)
  have hsz0 := row_size (b := b) hr
  rw [List.length_append] at hsz0
  refine ⟨_, c, hu2, fun w' hw => ⟨cs.toList.take (m * 1), row_read hh hw (by omega), ?_, by rw [List.length_take, show cs.toList.length = cs.size from rfl]; omega⟩⟩
  have key : ∀ (l : List AV) (o : Nat), (∀ (i : Nat) x, l[i]? = some x → ∃ v, cs[o + i]? = some v ∧ RelC (Sof Fr ah) w x [v]) → o + l.length ≤ cs.size → RelCs (Sof Fr ah) w l ((cs.toList.drop o).take l.length) := by
    intro l
    induction l with
    | nil => intro o _ _; simp [RelCs]
    | cons x l ih =>
      intro o h hle
      rw [List.length_cons] at hle
      obtain ⟨v, hv, hrv⟩ := h 0 x rfl
      rw [RelCs]
      refine ⟨[v], (cs.toList.drop (o + 1)).take l.length, ?_, hrv, ih (o + 1) (fun i y hi => ?_) (by omega)⟩
      · have : cs.toList.drop o = v :: cs.toList.drop (o + 1) := by
          rw [List.drop_eq_getElem_cons (by rw [Array.length_toList]; omega)]
          congr 1
          rw [Nat.add_zero] at hv
          have := (Array.getElem?_eq_some_iff.1 hv).2
          simpa using this
        rw [this]; rfl
      · obtain ⟨v, hv, hrv⟩ := h (i + 1) y (by simpa using hi)
        exact ⟨v, by rw [show o + 1 + i = o + (i + 1) by omega]; exact hv, hrv⟩
  have := key ys 0 (fun i x hi => by
    obtain ⟨v, hv, hrv⟩ := hr i x (by rw [List.getElem?_append_left (List.getElem?_eq_some_iff.1 hi).1]; exact hi)
    exact ⟨v, by rw [Nat.zero_add]; exact hv, hrv⟩) (by omega)
  rw [List.drop_zero, hm] at this
  rw [Nat.mul_one]; exact this
end
section
variable {C : Cx} {ds : List Deferred} {ks : List K} {af : AF}
end
section
variable {P : Program} {af : AF} {ah : AH}
variable {d : Option Tmp} {T : TypeId} {ps : String} {es : Array Edge} {gd : Option (Nat × Bool)}
end
section
variable {C : Cx} {ds : List Deferred} {ks : List K} {ops : Array Oper} {af : AF} {aq ae : AH} {n : Nat} {rem : List Nat} {vs : List AV}
end
section
variable {C : Cx} {ds : List Deferred} {ks : List K} {af : AF} {ah : AH} {ops : Array Oper} {rest : List Oper}
end
def earlyN (ops : Array Oper) (E N : List Nat) (x : Nat) : Bool := E.all fun e => memN e N || clB ops ops.size e x
def AX2 (N : List Nat) (C : Cx) (ds : List Deferred) (ks : List K) (ops : Array Oper) (af : AF) (aq : AH) : Nat → List Nat → List AV → AH → Prop
  | 0, _, vs, ae => AW C ds ks (frameOf ops vs af (down ops.size)) (ae ++ aq)
  | n + 1, rem, vs, ae => ∀ i ∈ rem, (∀ j ∈ rem, clB ops ops.size i j = false) → ∃ o, ops[i]? = some o ∧
      ((gdo ops (keep (oslots ops o) (frameOf ops vs af (down i))) o = some false ∧ AX2 N C ds ks ops af aq n (rem.erase i) (vs.set i (.tup [])) ae) ∨
       (gdo ops (keep (oslots ops o) (frameOf ops vs af (down i))) o = some true ∧ ∃ Φ : AEnd → AH → Prop, AOp C.P o (keep (oslots ops o) (frameOf ops vs af (down i))) ae Φ ∧
         (∀ v h, Φ (.ret v) h → AX2 N C ds ks ops af aq n (rem.erase i) (vs.set i v) h ∧ (memN i N = true → ∃ A, h = A ++ ae)) ∧ (∀ v h, Φ (.pan v) h → APan C ds v (h ++ aq))))
section
variable {C : Cx} {ds : List Deferred} {ks : List K} {af : AF}
end
structure AQ2 (P : Program) (ops : Array Oper) (aq aa : AH) (E N : List Nat) (n : Nat) (rest : List Oper) (af : AF) (K : List AV → Prop) : Prop where
  out : ∃ us : List AV, us.length = rest.length ∧ K us ∧ ∀ i o v, rest[i]? = some o → us[i]? = some v →
    memN (n + i) E = true ∨ QStep P ops aq o (((rest.zip us).take i).foldl (fun f p => put f p.1.dst p.2) af) v ∨ (earlyN ops E N (n + i) = true ∧ QStep P ops aa o (((rest.zip us).take i).foldl (fun f p => put f p.1.dst p.2) af) v)
section
variable {P : Program} {ops : Array Oper} {aq aa : AH} {E N : List Nat} {n : Nat} {af : AF} {K : List AV → Prop} {rest : List Oper} {o : Oper}
theorem AQ2.nil (h : K []) : AQ2 P ops aq aa E N n [] af K := ⟨[], rfl, h, by simp⟩
theorem AQ2.cons {v : AV} (h : memN n E = true ∨ QStep P ops aq o af v ∨ (earlyN ops E N n = true ∧ QStep P ops aa o af v)) (k : AQ2 P ops aq aa E N (n + 1) rest (put af o.dst v) (fun us => K (v :: us))) : AQ2 P ops aq aa E N n (o :: rest) af K := by
  obtain ⟨vs, h1, h2, h3⟩ := k.out
  refine ⟨v :: vs, by simp [h1], h2, fun i o' v' ho hv => ?_⟩
  cases i with
  | zero => simp at ho hv; subst ho; subst hv; simpa using h
  | succ i =>
    have := h3 i o' v' (by simpa using ho) (by simpa using hv)
    rw [show n + 1 + i = n + (i + 1) by omega] at this
    simpa using this
theorem AQ2.hole {af' : AF} (he : memN n E = true) (hp : put af o.dst .any = af') (k : AQ2 P ops aq aa E N (n + 1) rest af' (fun us => K (.any :: us))) : AQ2 P ops aq aa E N n (o :: rest) af K := AQ2.cons (.inl he) (by rw [hp]; exact k)
theorem AQ2.op {v : AV} {d : Nat} {af' : AF} (hkp : keep (oslots ops o) af = af') (h : AOp P o af' aq (D v aq)) (hg : o.guard = none) (hd : o.dst = some d) (k : AQ2 P ops aq aa E N (n + 1) rest ((d, v) :: af) (fun us => K (v :: us))) : AQ2 P ops aq aa E N n (o :: rest) af K :=
  AQ2.cons (.inr (.inl (.inl ⟨by simp [gdo, hg], hkp ▸ h⟩))) (by rw [hd]; exact k)
theorem AQ2.early {v : AV} {d : Nat} {af' : AF} (he : earlyN ops E N n = true) (hkp : keep (oslots ops o) af = af') (h : AOp P o af' aa (D v aa)) (hg : o.guard = none) (hd : o.dst = some d) (k : AQ2 P ops aq aa E N (n + 1) rest ((d, v) :: af) (fun us => K (v :: us))) : AQ2 P ops aq aa E N n (o :: rest) af K :=
  AQ2.cons (.inr (.inr ⟨he, .inl ⟨by simp [gdo, hg], hkp ▸ h⟩⟩)) (by rw [hd]; exact k)
theorem AQ2.gop {v : AV} {d : Nat} {af' : AF} (hkp : keep (oslots ops o) af = af') (h : AOp P o af' aq (D v aq)) (hg : gdo ops af' o = some true) (hd : o.dst = some d) (k : AQ2 P ops aq aa E N (n + 1) rest ((d, v) :: af) (fun us => K (v :: us))) : AQ2 P ops aq aa E N n (o :: rest) af K :=
  AQ2.cons (.inr (.inl (.inl ⟨hkp ▸ hg, hkp ▸ h⟩))) (by rw [hd]; exact k)
theorem AQ2.skip {d : Nat} {af' : AF} (hkp : keep (oslots ops o) af = af') (hg : gdo ops af' o = some false) (hd : o.dst = some d) (k : AQ2 P ops aq aa E N (n + 1) rest ((d, .tup []) :: af) (fun us => K (.tup [] :: us))) : AQ2 P ops aq aa E N n (o :: rest) af K :=
  AQ2.cons (.inr (.inl (.inr ⟨hkp ▸ hg, rfl⟩))) (by rw [hd]; exact k)
end
section
variable {P : Program} {ops : Array Oper} {aq aa : AH} {E N : List Nat} {n : Nat} {af af' : AF} {K : List AV → Prop} {rest : List Oper} {o : Oper}
theorem AQ2.ev {P : Program} {aq aa : AH} {E N : List Nat} {n : Nat} {K : List AV → Prop} {o : Oper} {v : AV} {d : Nat} {af' : AF} (hkp : keep (oslots ops o) af = af') (h : evalOp af' o.op = some v) (hg : o.guard = none) (hd : o.dst = some d) (k : AQ2 P ops aq aa E N (n + 1) rest ((d, v) :: af) (fun us => K (v :: us))) : AQ2 P ops aq aa E N n (o :: rest) af K :=
  AQ2.op hkp (AOp.ev h) hg hd k
theorem AQ2.p {v : AV} {d : Nat} (hkp : keep (oslots ops o) af = af') (h : AOp P o af' aq (D v aq)) (k : AQ2 P ops aq aa E N (n + 1) rest ((d, v) :: af) (fun us => K (v :: us))) (hg : o.guard = none := by exact rfl) (hd : o.dst = some d := by exact rfl) : AQ2 P ops aq aa E N n (o :: rest) af K := AQ2.op hkp h hg hd k
theorem AQ2.pe {v : AV} {d : Nat} (hkp : keep (oslots ops o) af = af') (h : AOp P o af' aa (D v aa)) (k : AQ2 P ops aq aa E N (n + 1) rest ((d, v) :: af) (fun us => K (v :: us))) (hg : o.guard = none := by exact rfl) (hd : o.dst = some d := by exact rfl) (he : earlyN ops E N n = true := by kernel_rfl) : AQ2 P ops aq aa E N n (o :: rest) af K := AQ2.early he hkp h hg hd k
theorem AQ2.e {v : AV} {d : Nat} (k : AQ2 P ops aq aa E N (n + 1) rest ((d, v) :: af) (fun us => K (v :: us))) (hkp : keep (oslots ops o) af = af' := by exact rfl) (h : evalOp af' o.op = some v := by exact rfl) (hg : o.guard = none := by exact rfl) (hd : o.dst = some d := by exact rfl) : AQ2 P ops aq aa E N n (o :: rest) af K := AQ2.ev hkp h hg hd k
theorem AQ2.gp {v : AV} {d : Nat} (hkp : keep (oslots ops o) af = af') (h : AOp P o af' aq (D v aq)) (k : AQ2 P ops aq aa E N (n + 1) rest ((d, v) :: af) (fun us => K (v :: us))) (hg : gdo ops af' o = some true := by exact rfl) (hd : o.dst = some d := by exact rfl) : AQ2 P ops aq aa E N n (o :: rest) af K := AQ2.gop hkp h hg hd k
theorem AQ2.k {d : Nat} (k : AQ2 P ops aq aa E N (n + 1) rest ((d, .tup []) :: af) (fun us => K (.tup [] :: us))) (hkp : keep (oslots ops o) af = af' := by exact rfl) (hg : gdo ops af' o = some false := by exact rfl) (hd : o.dst = some d := by exact rfl) : AQ2 P ops aq aa E N n (o :: rest) af K := AQ2.skip hkp hg hd k
theorem AQ2.hl (k : AQ2 P ops aq aa E N (n + 1) rest af' (fun us => K (.any :: us))) (he : memN n E = true := by exact rfl) (hp : put af o.dst .any = af' := by exact rfl) : AQ2 P ops aq aa E N n (o :: rest) af K := AQ2.hole he hp k
end
section
variable {C : Cx} {ds : List Deferred} {ks : List K} {af : AF}
end
section
variable {N : List Nat} {C : Cx} {ds : List Deferred} {ks : List K} {ops : Array Oper} {af : AF} {aq ae : AH} {n : Nat} {rem : List Nat} {vs : List AV}
def AX2S (N : List Nat) (C : Cx) (ds : List Deferred) (ks : List K) (ops : Array Oper) (af : AF) (aq : AH) (n : Nat) (rem : List Nat) (vs : List AV) (ae : AH) (i : Nat) : Prop :=
  ∃ o, ops[i]? = some o ∧
      ((gdo ops (keep (oslots ops o) (frameOf ops vs af (down i))) o = some false ∧ AX2 N C ds ks ops af aq n (rem.erase i) (vs.set i (.tup [])) ae) ∨
       (gdo ops (keep (oslots ops o) (frameOf ops vs af (down i))) o = some true ∧ ∃ Φ : AEnd → AH → Prop, AOp C.P o (keep (oslots ops o) (frameOf ops vs af (down i))) ae Φ ∧
         (∀ v h, Φ (.ret v) h → AX2 N C ds ks ops af aq n (rem.erase i) (vs.set i v) h ∧ (memN i N = true → ∃ A, h = A ++ ae)) ∧ (∀ v h, Φ (.pan v) h → APan C ds v (h ++ aq))))
theorem AX2.done_keep (is : List Nat) (k : AW C ds ks (keep is (frameOf ops vs af (down ops.size))) (ae ++ aq)) : AX2 N C ds ks ops af aq 0 rem vs ae := AW.weaken k fun i v hi => get_keep hi
theorem AX2.next (l : List Nat) (hr : readyL ops rem = l) (h : ∀ i ∈ l, AX2S N C ds ks ops af aq n rem vs ae i) : AX2 N C ds ks ops af aq (n + 1) rem vs ae := by
  intro i hi hf
  refine h i ?_
  rw [← hr]
  simp only [readyL, List.mem_filter, List.all_eq_true, Bool.not_eq_true']
  exact ⟨hi, hf⟩
theorem AX2.one (i : Nat) (hr : readyL ops rem = [i]) (h : AX2S N C ds ks ops af aq n rem vs ae i) : AX2 N C ds ks ops af aq (n + 1) rem vs ae :=
  AX2.next [i] hr fun j hj => by obtain rfl := List.mem_singleton.1 hj; exact h
theorem AX2.two (i j : Nat) (hr : readyL ops rem = [i, j]) (h : AX2S N C ds ks ops af aq n rem vs ae i) (h' : AX2S N C ds ks ops af aq n rem vs ae j) : AX2 N C ds ks ops af aq (n + 1) rem vs ae :=
  AX2.next [i, j] hr fun k hk => by
    rcases List.mem_cons.1 hk with rfl | hk
    · exact h
    · obtain rfl := List.mem_singleton.1 hk; exact h'
theorem AX2S.step {i : Nat} {o : Oper} {af' : AF} {Φ : AEnd → AH → Prop} (ho : ops[i]? = some o) (hg : o.guard = none) (hkp : keep (oslots ops o) (frameOf ops vs af (down i)) = af') (h : AOp C.P o af' ae Φ)
    (hk : ∀ v h, Φ (.ret v) h → AX2 N C ds ks ops af aq n (rem.erase i) (vs.set i v) h) (hp : ∀ v h, Φ (.pan v) h → APan C ds v (h ++ aq)) (hN : memN i N = false := by exact rfl) : AX2S N C ds ks ops af aq n rem vs ae i :=
  ⟨o, ho, .inr ⟨by simp [gdo, hg], Φ, hkp ▸ h, fun v h hΦ => ⟨hk v h hΦ, fun e => by rw [hN] at e; cases e⟩, hp⟩⟩
theorem AX2S.det {i : Nat} {o : Oper} {af' : AF} {v : AV} {ae' : AH} (ho : ops[i]? = some o) (hg : o.guard = none) (hkp : keep (oslots ops o) (frameOf ops vs af (down i)) = af') (h : AOp C.P o af' ae (D v ae'))
    (hk : AX2 N C ds ks ops af aq n (rem.erase i) (vs.set i v) ae') (hN : memN i N = false := by exact rfl) : AX2S N C ds ks ops af aq n rem vs ae i :=
  AX2S.step ho hg hkp h (by rintro v' h' ⟨e, rfl⟩; injection e with e; subst e; exact hk) (by rintro v' h' ⟨e, _⟩; cases e) hN
theorem AX2S.mk {i : Nat} {o : Oper} {af' : AF} {Φ : AEnd → AH → Prop} (ho : ops[i]? = some o) (hg : o.guard = none) (hkp : keep (oslots ops o) (frameOf ops vs af (down i)) = af') (h : AOp C.P o af' [] Φ)
    (hk : ∀ v h, Φ (.ret v) h → AX2 N C ds ks ops af aq n (rem.erase i) (vs.set i v) (h ++ ae)) (hp : ∀ v h, Φ (.pan v) h → APan C ds v (h ++ ae ++ aq)) : AX2S N C ds ks ops af aq n rem vs ae i :=
  ⟨o, ho, .inr ⟨by simp [gdo, hg], _, (hkp ▸ h).frameL ae, by rintro v _ ⟨h1, hΦ, rfl⟩; exact ⟨hk v h1 hΦ, fun _ => ⟨h1, rfl⟩⟩, by rintro v _ ⟨h1, hΦ, rfl⟩; exact hp v h1 hΦ⟩⟩
theorem AX2S.sl (j : Nat) {i : Nat} {x y : Operand} {b off : Nat} {c c' v : AV} {t T : TypeId} {ps : String} {es : Array Edge} {af' : AF} (ho : ops[i]? = some ⟨none, .store t x y, T, ps, es, none⟩) (hkp : keep (oslots ops ⟨none, .store t x y, T, ps, es, none⟩) (frameOf ops vs af (down i)) = af')
    (hk : ∀ u, AX2 N C ds ks ops af aq n (rem.erase i) (vs.set i u) (ae.set j (.box b c'))) (hx : aeval af' x = some (.ref b off) := by exact rfl) (hy : aeval af' y = some v := by exact rfl) (hi : ae[j]? = some (.box b c) := by exact rfl) (hs : c.upd off v = some c' := by exact rfl) (hok : v.cellOK = true := by exact rfl)
    (ht : tkind C.P t = some (v.isSt, v.size) := by kernel_rfl) (hN : memN i N = false := by exact rfl) : AX2S N C ds ks ops af aq n rem vs ae i :=
  AX2S.step ho rfl hkp (AOp.store_box hx hy hi hs hok ht) (by rintro v h ⟨_, rfl⟩; exact hk v) (by rintro _ _ ⟨⟨_, e⟩, _⟩; cases e) hN
end
def symTy (P : Program) (t : TypeId) : Bool := match P.underlying t with
  | some (.struct fs) => (match fs.toList with
    | [f, g] => decide (f.name ≠ "_") && decide (g.name ≠ "_") && decide (f.offset = 0) && decide (g.offset = 1) && (match P.underlying f.type with | some .string => true | _ => false) && (match P.underlying g.type with | some (.int _) => true | _ => false)
    | _ => false) && !P.stoodInHeld t && !P.eqGuardType P.depth t
  | _ => false
theorem run_sym_eq {P : Program} (w : World) {t : TypeId} (ht : symTy P t = true) (s u : ByteArray) (a b : Int) :
    (binOp .eql t (.agg #[.string s, .int .i64 a]) (.agg #[.string u, .int .i64 b])).run P w = .ok (.bool (s.toList == u.toList && a == b)) w ∧ P.eqGuardType P.depth t = false := by
  unfold symTy at ht
  split at ht
  · rename_i fs hu
    simp only [Bool.and_eq_true, Bool.not_eq_true'] at ht
    obtain ⟨⟨h1, h2⟩, h3⟩ := ht
    have hf : P.fieldsOf t = fs := by unfold Program.fieldsOf; rw [hu]
    split at h1
    · rename_i f g hfs
      simp only [Bool.and_eq_true, decide_eq_true_eq] at h1
      obtain ⟨⟨⟨⟨⟨f1, f2⟩, f3⟩, f4⟩, f5⟩, f6⟩ := h1
      split at f5
      · rename_i hs
        split at f6
        · rename_i k hk
          refine ⟨?_, h3⟩
          have p1 : P.plainKey f.type = true := by unfold Program.plainKey; rw [hs]
          have p2 : P.plainKey g.type = true := by unfold Program.plainKey; rw [hk]
          rw [run_eql_struct, run_equalIn_struct w 9999 t _ _ (by rw [hf]; exact hu) h2, hf, hfs]
          simp only [Op.eqFields, f1, f2, ne_eq, not_false_eq_true, if_true, Sem.run_bind]
          rw [f3, f4, run_part_plain w p1 (v := .string s) rfl]
          simp only [Result.andThen_ok]
          rw [run_part_plain w p1 (v := .string u) rfl]
          simp only [Result.andThen_ok]
          rw [run_equalIn_string w 9998 f.type s u hs]
          simp only [Result.andThen_ok]
          cases hsu : (s.toList == u.toList) with
          | false => simp
          | true =>
            simp only [Bool.not_true, Bool.false_eq_true, if_false, Sem.run_bind]
            rw [run_part_plain w p2 (v := .int .i64 a) rfl]
            simp only [Result.andThen_ok]
            rw [run_part_plain w p2 (v := .int .i64 b) rfl]
            simp only [Result.andThen_ok]
            rw [run_equalIn_int w 9998 g.type .i64 k a b hk]
            simp only [Result.andThen_ok]
            cases hab : (a == b) <;> simp
        · cases f6
      · cases f5
    · cases h1
  · cases ht
section
variable {P : Program} {af : AF} {ah : AH}
variable {d : Option Tmp} {T : TypeId} {ps : String} {es : Array Edge} {gd : Option (Nat × Bool)}
theorem rel_sym {S : Rg} {w : World} {s : ByteArray} {a : Int} {u : Value} (h : Rel S w (.st [.str s, .int .i64 a]) u) : u = .agg #[.string s, .int .i64 a] := by
  obtain ⟨cs, rfl, h1⟩ := h.st
  simp only [RelCs, RelC] at h1
  obtain ⟨c1, c2, rfl, rfl, c3, c4, rfl, rfl, rfl⟩ := h1
  rfl
end
structure TriY (P : Program) (l : Nat) (tm : List Value) (ix : List Nat) (vs args : List AV) (ah : AH) (Φ : AEnd → AH → Prop) : Prop where
  out : ∀ Fr w us, St Fr ah w → RelVs (Sof Fr ah) w args us → RelVs (Sof Fr ah) w vs (ix.map fun i => tm.getD i undef) →
    ∃ fn tmps x y, (Instr.yield l us.toArray).run P w = .ok (.round l fn tmps x y) w ∧ RoundIn Fence.wide 0 P l fn tmps x y w (EndR Fr (reg ah) w Φ)
section
variable {P : Program} {af : AF} {ah : AH}
variable {d : Option Tmp} {T : TypeId} {ps : String} {es : Array Edge} {gd : Option (Nat × Bool)}
theorem AOp.yield {y : Tmp} {l : Nat} {tm : List Value} {ix : List Nat} {vs : List AV} {xs : Array Operand} {tys : Array TypeId} {args : List AV} {Φ : AEnd → AH → Prop} (hy : aeval af (.tmp y) = some (.yl l tm ix vs)) (hx : aevals af xs.toList = some args)
    (h : TriY P l tm ix vs args ah Φ) : AOp P ⟨d, .call ⟨.value (.tmp y), xs, tys⟩, T, ps, es, gd⟩ af ah Φ := .mk fun Fr a w hst hf => by
  have hv := (aeval_rel hf hy)
  obtain ⟨hv1, hv2⟩ := hv
  simp only [RelC] at hv1
  obtain ⟨hv1, hv3⟩ := hv1
  have he : a.eval (.tmp y) = .func (.yield l) #[] #[] := one_of_shape hv2 hv1
  obtain ⟨fn, tmps, x, z, hrun, hR⟩ := h.out Fr w _ hst (aevals_rel hf hx) hv3
  have hexec : (execOp a.eval ⟨d, .call ⟨.value (.tmp y), xs, tys⟩, T, ps, es, gd⟩).run P w = .ok (.round l fn tmps x z) w := by
    simp only [execOp, resolve, he, Deferred.ofValue, Sem.run_bind, Sem.run_pure, Result.andThen_ok, invoke]
    rw [← hrun]
    congr 2
    apply Array.ext'
    simp
  rw [hexec]
  exact ⟨⟨y, xs, tys, rfl⟩, hR⟩
end
theorem St.setObj {Fr : Rg} {ah : AH} {w : World} (s : St Fr ah w) {i b : Nat} {o : Obj} (o' : Obj) (hi : ah[i]? = some (.obj b o)) (hc : ∀ cs t z, o ≠ .cells cs t z) :
    St Fr (ah.set i (.obj b o')) (w.putObj b o') ∧ Ext (reg ah) w (w.putObj b o') ∧ ∀ b1 o1, b1 < w.heap.size → reg (ah.set i (.obj b o')) b1 o1 → reg ah b1 o1 := by
  have hh : w.heap[b]? = some o := s.rel _ (List.mem_of_getElem? hi)
  have hb : b < w.heap.size := (Array.getElem?_eq_some_iff.1 hh).1
  exact s.update (x' := .obj b o') hi (set_objE hh hc) (fun k h => .inl h) (fun k o1 _ h => h) (fun k h => by simp only [Own.blk, Option.some.injEq] at h; subst h; simpa using hb) (fun m => World.putObj_heap_same hb)
section
variable {C : Cx} {ds : List Deferred} {ks : List K} {af : AF} {ah : AH}
theorem Good.setObj {a : Act} {w : World} (g : Good C ds af ah a w) {i b : Nat} {o : Obj} (o' : Obj) (hi : ah[i]? = some (.obj b o)) (hc : ∀ cs t z, o ≠ .cells cs t z) : Good C ds af (ah.set i (.obj b o')) a (w.putObj b o') := by
  obtain ⟨k1, k2, k3⟩ := g.st.setObj o' hi hc
  exact g.next (d := none) (v := .any) (u := undef) rfl ⟨by simp [RelC, undef, Value.cells], by simp [Shape]⟩ k1 k2 k3
end
def lrec (fn : FuncId) (tm : List Value) (ps : Array Tmp) (x y : Code) (D : Nat) (st : LoopState) (pe : Option Code) : Loop := { state := st, pending := pe, fn, tmps := tm.toArray, params := ps, assign := x, body := y, defers := D }
abbrev Crd (P : Program) (n l : Nat) (Fr R0 : Rg) (w0 : World) (Φ : AEnd → AH → Prop) : Cx := { P, n, Fr, R0, w0, R := roundPost P l (EndR Fr R0 w0 Φ), ro := some l }
section
variable {P : Program} {n l : Nat} {Fr R0 : Rg} {w0 : World} {Φ : AEnd → AH → Prop} {ks : List K} {af : AF} {ah : AH}
end
def bindF : List Tmp → List AV → AF → AF
  | p :: ps, v :: vs, af => bindF ps vs ((p, v) :: af)
  | _, _, af => af
theorem bind_rel {S : Rg} {w : World} {n : Nat} : ∀ (ps : List Tmp) (args : List AV) (us : List Value) (af : AF) (tm : Array Value), RelVs S w args us → args.length = ps.length → ps.all (fun p => Nat.blt p n) = true → tm.size = n →
    (∀ i v, get af i = some v → Rel S w v (tm.getD i undef)) →
    ((ps.zip us).foldl (fun t (p : Tmp × Value) => t.setIfInBounds p.1 p.2) tm).size = n ∧ ∀ i v, get (bindF ps args af) i = some v → Rel S w v (((ps.zip us).foldl (fun t (p : Tmp × Value) => t.setIfInBounds p.1 p.2) tm).getD i undef)
  | [], args, us, af, tm, hr, hl, hp, hs, h => ⟨by simpa using hs, by simpa [bindF] using h⟩
  | p :: ps, [], us, af, tm, hr, hl, hp, hs, h => by simp at hl
  | p :: ps, x :: args, us, af, tm, hr, hl, hp, hs, h => by
    simp only [RelVs] at hr
    obtain ⟨u, us', rfl, h1, h2, h3⟩ := hr
    simp only [List.all_cons, Bool.and_eq_true] at hp
    have hpn : p < tm.size := by rw [hs]; simpa using hp.1
    refine bind_rel ps args us' ((p, x) :: af) (tm.setIfInBounds p u) h3 (by simpa using hl) hp.2 (by simpa using hs) fun i v hi => ?_
    rw [get_cons] at hi
    by_cases e : p = i
    · subst e
      rw [if_pos rfl] at hi
      obtain rfl := Option.some.inj hi
      rw [Array.getD_eq_getD_getElem?, Array.getElem?_setIfInBounds_self_of_lt hpn]
      exact ⟨h1, h2⟩
    · rw [if_neg e] at hi
      rw [Array.getD_eq_getD_getElem?, Array.getElem?_setIfInBounds_ne e, ← Array.getD_eq_getD_getElem?]
      exact h i v hi
def zipF : List Nat → List AV → AF
  | i :: is, v :: vs => (i, v) :: zipF is vs
  | _, _ => []
theorem zip_rel {S : Rg} {w : World} {tm : List Value} : ∀ (ix : List Nat) (vs : List AV), RelVs S w vs (ix.map fun i => tm.getD i undef) → ∀ i v, get (zipF ix vs) i = some v → Rel S w v (tm.toArray.getD i undef)
  | [], vs, h, i, v, hi => by cases vs <;> simp [zipF, get] at hi
  | j :: ix, [], h, i, v, hi => by simp [zipF, get] at hi
  | j :: ix, x :: vs, h, i, v, hi => by
    simp only [List.map_cons, RelVs] at h
    obtain ⟨u, us', e, h1, h2, h3⟩ := h
    injection e with e1 e2
    subst e2
    rw [zipF, get_cons] at hi
    by_cases e : j = i
    · subst e
      rw [if_pos rfl] at hi
      obtain rfl := Option.some.inj hi
      have : tm.toArray.getD j undef = u := by rw [← e1]; simp [Array.getD_eq_getD_getElem?, List.getD_eq_getElem?_getD]
      rw [this]; exact ⟨h1, h2⟩
    · rw [if_neg e] at hi
      exact zip_rel ix vs h3 i v hi
theorem TriY.round {P : Program} {n l D fn : Nat} {tm : List Value} {ps : Array Tmp} {x y : Code} {ix : List Nat} {vs args : List AV} {ah : AH} {Φ : AEnd → AH → Prop} (i : Nat) (I : AF → AH → Prop)
    (hi : ah[i]? = some (.obj l (.loop (lrec fn tm ps x y D .ready none)))) (htm : tm.length = n) (hl : args.length = ps.toList.length) (hp : ps.toList.all (fun p => Nat.blt p n) = true)
    (ha : ∀ Fr w0 R, AW { P, n, Fr, R0 := reg ah, w0, R, ro := some l } [] [.c x, .back (Jm { P, n, Fr, R0 := reg ah, w0, R, ro := some l } [] I)] (bindF ps.toList args (zipF ix vs)) ah)
    (hI : ∀ af1 ah1, I af1 ah1 → ∃ j, ah1[j]? = some (.obj l (.loop (lrec fn tm ps x y D .ready none))) ∧ ∀ Fr w0, AW (Crd P n l Fr (reg ah) w0 Φ) [] [.c y] af1 (ah1.set j (.obj l (.loop (lrec fn tm ps x y D .busy none))))) :
    TriY P l tm ix vs args ah Φ := .mk fun Fr w us hst hr hv => by
  have hh : w.heap[l]? = some (.loop (lrec fn tm ps x y D .ready none)) := hst.rel _ (List.mem_of_getElem? hi)
  have hlen := hr.length
  refine ⟨fn, _, x, y, run_yield hh (by simp [lrec, hlen, hl]), roundIn_of_wpIn trivial ?_⟩
  have hb := bind_rel (n := n) ps.toList args us (zipF ix vs) tm.toArray hr hl hp (by simpa using htm) (zip_rel ix vs hv)
  have hfold : (ps.zip us.toArray).foldl (fun tmps (t, a) => tmps.setIfInBounds t a) (lrec fn tm ps x y D .ready none).tmps = (ps.toList.zip us).foldl (fun t (p : Tmp × Value) => t.setIfInBounds p.1 p.2) tm.toArray := by
    rw [← Array.foldl_toList, Array.toList_zip]; rfl
  have g0 : Good { P, n, Fr, R0 := reg ah, w0 := w, R := roundPost P l (EndR Fr (reg ah) w Φ), ro := some l } [] (bindF ps.toList args (zipF ix vs)) ah { tmps := (ps.zip us.toArray).foldl (fun tmps (t, a) => tmps.setIfInBounds t a) (lrec fn tm ps x y D .ready none).tmps, defers := [] } w := by
    rw [hfold]
    exact ⟨hb.1, rfl, hst, Ext.refl _ _, fun _ _ _ h => h, hb.2⟩
  have h1 := (ha Fr w (fun _ _ _ => False)).out _ w { size := g0.size, defers := g0.defers, st := g0.st, ext := g0.ext, old := g0.old, fr := g0.fr }
  simp only [hnd] at h1
  refine wpIn_mono h1 fun e a1 w1 q => ?_
  cases e with
  | normal =>
    simp only [hnd] at q
    obtain ⟨af1, ah1, hi1, g1⟩ := q
    obtain ⟨j, hj, hB⟩ := hI af1 ah1 hi1
    have hh1 : w1.heap[l]? = some (.loop (lrec fn tm ps x y D .ready none)) := g1.st.rel _ (List.mem_of_getElem? hj)
    have g2 : Good (Crd P n l Fr (reg ah) w Φ) [] af1 ah1 a1 w1 := ⟨g1.size, g1.defers, g1.st, g1.ext, g1.old, g1.fr⟩
    have g3 := g2.setObj (.loop (lrec fn tm ps x y D .busy none)) hj (fun _ _ _ h => by cases h)
    refine ⟨_, run_beginRound hh1 rfl, ?_⟩
    have h2 := (hB Fr w).out a1 _ g3
    simp only [hnd] at h2
    exact wpIn_mono h2 fun e a w q => by cases e <;> simpa [hnd] using q
  | _ => simp only [hnd] at q
theorem TriY.frame {P : Program} {l : Nat} {tm : List Value} {ix : List Nat} {vs args : List AV} {ah : AH} {Φ : AEnd → AH → Prop} (m : List Bool) (h : TriY P l tm ix vs args (sel m ah) Φ) :
    TriY P l tm ix vs args ah (fun x h => ∃ h1, Φ x h1 ∧ h = h1 ++ uns m ah) := .mk fun Fr w us hst hr hv => by
  have hp := sel_perm m ah
  have s := hst.perm hp.symm
  have mv := Mv.same (S := Sof Fr ah) (S' := Sof Fr (sel m ah ++ uns m ah)) w fun b o hs => hs.elim .inl fun h' => .inr ((reg_perm hp).1 h')
  obtain ⟨fn, tmps, x, y, hrun, hR⟩ := h.out (Sof Fr (uns m ah)) w us s.part (by rw [sof_part]; exact RelVs.mv mv _ _ hr) (by rw [sof_part]; exact RelVs.mv mv _ _ hv)
  exact ⟨fn, tmps, x, y, hrun, hR.mono fun e w' he => (EndR.frame s he).perm fun b o => reg_perm hp⟩
theorem TriY.mono {P : Program} {l : Nat} {tm : List Value} {ix : List Nat} {vs args : List AV} {ah : AH} {Φ Ψ : AEnd → AH → Prop} (h : TriY P l tm ix vs args ah Φ) (k : ∀ x h, Φ x h → Ψ x h) : TriY P l tm ix vs args ah Ψ :=
  .mk fun Fr w us h1 h2 h3 => let ⟨fn, tmps, x, y, hrun, hR⟩ := h.out Fr w us h1 h2 h3; ⟨fn, tmps, x, y, hrun, hR.mono fun e w' he => he.mono k⟩
section
variable {C : Cx} {ds : List Deferred} {ks : List K} {af : AF} {ah : AH} {ops : Array Oper} {rest : List Oper}
theorem AL.yield {dd : Option Tmp} {T : TypeId} {ps : String} {es : Array Edge} {y : Tmp} {l : Nat} {tm : List Value} {ix : List Nat} {vs : List AV} {xs : Array Operand} {tys : Array TypeId} {args : List AV} {Φ : AEnd → AH → Prop} (hy : aeval af (.tmp y) = some (.yl l tm ix vs)) (hx : aevals af xs.toList = some args)
    (h : TriY C.P l tm ix vs args ah Φ) (hd : okDst dd C.n = true) (hp : ∀ v ah', Φ (.pan v) ah' → APan C ds v ah') (hk : ∀ v ah', Φ (.ret v) ah' → AL C ds ks ops rest (put af dd v) ah') : AL C ds ks ops (⟨dd, .call ⟨.value (.tmp y), xs, tys⟩, T, ps, es, none⟩ :: rest) af ah :=
  AL.step rfl hd (AOp.yield hy hx h) hk hp
theorem Good.cons {a : Act} {w : World} (g : Good C ds af ah a w) (o : Obj) : Good C ds af (.obj w.heap.size o :: ah) a (w.alloc o) := by
  have hx : Ext (fun _ _ => False) w (w.alloc o) := ⟨rfl, rfl, rfl, by simp, fun k hk _ => Below.heap_alloc w _ k hk, fun ad v hc _ => (World.cell?_alloc_lt w _ ad (cell_lt hc)).trans hc⟩
  obtain ⟨k1, k2, k3⟩ := g.st.cons (x := .obj w.heap.size o) (b := w.heap.size) rfl (Nat.le_refl _) (by simp) hx (fun m => World.alloc_heap_new w o)
  exact g.next (d := none) (v := .any) (u := undef) rfl ⟨by simp [RelC, undef, Value.cells], by simp [Shape]⟩ k1 k2 k3
end
section
variable {P : Program} {fn : Func} {n : Nat} {Fr R0 : Rg} {w0 : World} {Φ : AEnd → AH → Prop} {ks : List K} {af : AF} {ah : AH} {ds : List Deferred}
end
open Go.RowKit Go.Maps Go.Sort Go.Shelf Go.Proofs
set_option linter.unusedVariables false
set_option linter.unusedSimpArgs false
def anyR : Value → Option (DataW Unit × List MemPlace) := fun _ => some (.lit (.bool true), [])
def keyL (s : ByteArray) : List UInt8 := s.data.toList
def sortL (ks : List ByteArray) : List ByteArray := ((ks.map keyL).mergeSort fun x y => decide (x ≤ y)).map fun l => ⟨l.toArray⟩
theorem ownsMap_of {P : Program} {k : TypeId} {S : Rg} {w : World} {mb : Nat} {α : Type} {g : α → AV} {A : List (ByteArray × α)} {mg : MG} (hk : P.underlying k = some .string) (h : OwnRel S w (.map mb (kvW g A) mg))
    (hs : ∀ p ∈ A, p.1.size ≤ maxLen) (hn : (A.map Prod.fst).Nodup) (hl : A.length ≤ maxLen) :
    ∃ D0 : DataW Unit, w.ownsMap P k anyR mb A.length D0 ∧ (strKeys D0).Perm (A.map fun p => keyL p.1) ∧ Maps.size D0 = A.length := by
  obtain ⟨es, h1, h2, h3, h4, h5, h6⟩ := h
  have hlen : es.size = A.length := by rw [h3]; simp [kvW]
  have hkey : es.toList.map (·.key) = A.map fun p => Value.string p.1 := by
    apply List.ext_getElem?
    intro i
    rw [List.getElem?_map, List.getElem?_map]
    rcases hi : A[i]? with _ | p
    · have : A.length ≤ i := by rcases Nat.lt_or_ge i A.length with h | h; · rw [List.getElem?_eq_getElem h] at hi; cases hi
                                · exact h
      have hh : es.toList[i]? = none := List.getElem?_eq_none (by simpa [hlen] using this)
      simp [hh]
    · obtain ⟨e, he, hk1, _⟩ := h4 i (.str p.1) (g p.2) (by simp [kvW, hi])
      have : e.key = .string p.1 := Rel.str hk1
      simp [show es.toList[i]? = some e by simpa using he, this]
  have hread : ∀ x ∈ es.toList, ∃ p ∈ A, x.key = .string p.1 := fun x hx => by
    have : x.key ∈ A.map fun p => Value.string p.1 := hkey ▸ List.mem_map_of_mem hx
    obtain ⟨p, hp, e⟩ := List.mem_map.1 this
    exact ⟨p, hp, e.symm⟩
  have hrg : ∀ x ∈ es.toList, ∃ p ∈ A, x.key = .string p.1 ∧ Go.WideElems.rd P k anyR x = some (.string (keyL p.1), .lit (.bool true)) := fun x hx => by
    obtain ⟨p, hp, e⟩ := hread x hx
    refine ⟨p, hp, e, ?_⟩
    unfold Go.WideElems.rd
    rw [e, Go.WideMaps.keyOf_string_mk hk (hs p hp)]
    rfl
  have hR : (es.toList.map (Go.WideElems.rg P k anyR)).map (fun q => strOf q.1) = A.map fun p => keyL p.1 := by
    have e2 : (es.toList.map (Go.WideElems.rg P k anyR)).map (fun q => strOf q.1) = (es.toList.map (·.key)).map fun v => match v with | .string s => keyL s | _ => [] := by
      rw [List.map_map, List.map_map]
      refine List.map_congr_left fun x hx => ?_
      obtain ⟨p, _, e, hr⟩ := hrg x hx
      simp only [Function.comp, Go.WideElems.rg_of hr, e, strOf]
    rw [e2, hkey, List.map_map]
    rfl
  refine ⟨.map ((es.toList.map (Go.WideElems.rg P k anyR)).foldr DataW.insert []), ⟨es, mg.clk, h1, ⟨by omega, ⟨?_, ?_, ?_⟩, fun x hx => ?_⟩, by omega, rfl⟩, ?_, ?_⟩
  · intro x hx
    exact h5 _ (h2 ▸ List.mem_map_of_mem hx)
  · rw [h2]; exact h6
  · rw [hkey]
    have : (A.map fun p => Value.string p.1) = (A.map Prod.fst).map Value.string := by simp
    rw [this]
    exact List.pairwise_map.2 (hn.imp fun {a b} h e => h (by injection e))
  · obtain ⟨p, _, _, hr⟩ := hrg x hx
    exact ⟨_, hr⟩
  · show ((_ : List (Lit × DataW Unit)).map fun p => strOf p.1).Perm _
    rw [← hR]
    exact (Go.WideShapes.sorted_perm _).map _
  · show List.length _ = _
    rw [length_sorted]; simpa using hlen
theorem RelC_strs_row {S : Rg} {w : World} {g : Nat} {n : Nat} {cur : Array Value} {e : TypeId} {l : List (List UInt8)} (hg : ∀ o, ¬ S g o) (hh : w.heap[g]? = some (.cells cur e (0, 0))) (hc : cur.toList.take n = l.map encStr) (hn : l.length = n) : RelRow S w ((l.map fun x => (⟨x.toArray⟩ : ByteArray)).map AV.str) 1 g 0 := by
  have hcs : RelCs S w ((l.map fun x => (⟨x.toArray⟩ : ByteArray)).map AV.str) (l.map encStr) := by
    clear hc hn
    induction l with
    | nil => simp [RelCs]
    | cons x l ih => simp only [List.map_cons, RelCs]; exact ⟨[encStr x], _, rfl, by simp [RelC, encStr], ih⟩
  refine RelRow.of_cells hcs (fun x hx => ?_) fun j v hj => ⟨hg _, ?_⟩
  · obtain ⟨y, _, rfl⟩ := List.mem_map.1 hx
    rfl
  · rw [Nat.zero_add, cell_of_row w g j cur e (0, 0) hh]
    have hj' := hj
    rw [← hc, List.getElem?_take] at hj'
    split at hj'
    · simpa using hj'
    · cases hj'
theorem sorted_keys {P : Program} {ρ σ : Ren} (L : SlLaysZ.n6 P ρ) (K : SlLaysZ.n10 P σ) (hsort : ∀ m, AnyZ.SortsIn P ρ Fence.wide m)
    (e9 : ∀ args w, (callFunc (ρ.f 9) args).run P w = .ok (.enter (ρ.f 9) args) w) (eg : ∀ args w, (callFunc (σ.f 10) args).run P w = .ok (.enter (σ.f 10) args) w) (hc : Callable P (ρ.f 6))
    {α : Type} {g : α → AV} {A : List (ByteArray × α)} {mg : MG} {bb mb : Nat} (hs : ∀ p ∈ A, p.1.size ≤ maxLen) (hn : (A.map Prod.fst).Nodup) (hl : A.length ≤ 1000000) :
    Tri P (ρ.f 6) [.fn (σ.f 10) [.ref bb 0]] [.box bb (.map mb), .map mb (kvW g A) mg] (D (strs (sortL (A.map Prod.fst))) [.box bb (.map mb), .map mb (kvW g A) mg]) := by
  refine ⟨hc, fun Fr w vs hst hrel => ?_⟩
  simp only [RelVs] at hrel
  obtain ⟨u, us, rfl, h1, h1', rfl⟩ := hrel
  obtain ⟨lb, rfl, hlb⟩ := Rel.fn ⟨h1, h1'⟩
  simp only [RelVs] at hlb
  obtain ⟨u2, us2, rfl, k1, k1', rfl⟩ := hlb
  have e2 : u2 = .pointer (some ⟨bb, 0, none⟩) := Rel.ref ⟨k1, k1'⟩
  subst e2
  have hbox := hst.rel (.box bb (.map mb)) (by simp)
  have hmap := hst.rel (.map mb (kvW g A) mg) (by simp)
  obtain ⟨cs, t, b1, b2⟩ := hbox
  simp only [RelC] at b2
  have hcell : w.cell? ⟨bb, 0, none⟩ = some (.map (some mb)) := by
    rw [cell_of_row w bb 0 cs t (0, 0) b1]
    have : cs.toList[0]? = some (.map (some mb)) := by rw [b2]; rfl
    simpa using this
  have hbb : bb < w.heap.size := hst.lt _ (List.mem_cons_self ..) bb rfl
  obtain ⟨D0, d1, d2, d3⟩ := ownsMap_of (P := P) K.t26 hmap hs hn (by simp only [maxLen]; omega)
  have hseq := AnyZ.keys_gives K Fence.wide 2 trivial rfl (by omega) bb mb A.length D0 w hbb hcell d1
  rw [d3] at hseq
  have hS := AnyZ.sorted_in L Fence.wide 5 trivial trivial trivial trivial rfl (by omega) (hsort _) e9 (σ.f 10) #[.pointer (some ⟨bb, 0, none⟩)] trivial eg _ A.length (by simp only [maxLen]; omega) (by omega) w hseq
  refine (callsIn_wide.1 hS).mono ?_
  rintro e w' ⟨v, ss, rfl, hp, hrow, hnil, hb⟩
  have hext : Ext (fun _ _ => False) w w' := ⟨hb.os, hb.tape, hb.output, hb.size, fun k hk _ => hb.block k hk, fun ad v hc _ => (World.cell?_of_block (hb.block ad.block (cell_lt hc))).trans hc⟩
  have hst' := hst.grow hext
  have hsrt : (ss.mergeSort fun x y => decide (x ≤ y)) = ((A.map Prod.fst).map keyL).mergeSort fun x y => decide (x ≤ y) := by
    have := mergeSort_of_perm (hp.trans d2)
    rw [List.map_map]
    exact this
  rw [hsrt] at hrow
  refine ⟨_, _, ⟨rfl, rfl⟩, ⟨v, rfl, ?_⟩, hst', hext.mono fun _ _ h => h.elim, fun _ _ _ h => h⟩
  obtain ⟨r1, r2⟩ := hrow
  have hS : ∀ b', w.heap.size ≤ b' → ∀ o, ¬ Sof Fr [.box bb (.map mb), .map mb (kvW g A) mg] b' o := fun b' hb' o h => by
    rcases h with h | ⟨x, hx, h⟩
    · exact absurd (hst.frlt _ _ h) (by omega)
    · exact absurd (hst.lt x hx b' (reg_blk h)) (by omega)
  unfold strs sortL
  generalize (((A.map Prod.fst).map keyL).mergeSort fun x y => decide (x ≤ y)) = l at r1 r2 ⊢
  rw [List.length_map, Nat.mul_one] at r1
  rcases r2 with ⟨rfl, r2⟩ | ⟨gb, cap, cur, rfl, hge, hheap, hle, hcap, hsz, htake⟩
  · have : l = [] := List.length_eq_zero_iff.1 (by omega)
    subst this
    exact ⟨by simp only [RelC, List.map_nil]; exact ⟨none, 0, rfl, by simp, by simp [maxLen], fun h => (h rfl).elim⟩, by simp [Shape]⟩
  · rw [Nat.mul_one] at htake
    refine ⟨?_, by simp [Shape]⟩
    simp only [RelC]
    refine ⟨some ⟨gb, 0, none⟩, cap, by simp [Value.cells, r1], by simpa [r1] using hle, hcap, fun _ => ⟨gb, 0, 1, rfl, RelC_strs_row (hS gb hge) hheap htake r1⟩⟩
section
variable {P : Program} {af : AF} {ah : AH}
variable {d : Option Tmp} {T : TypeId} {ps : String} {es : Array Edge} {gd : Option (Nat × Bool)}
theorem run_sym_ne {P : Program} (w : World) {t : TypeId} (ht : symTy P t = true) (s u : ByteArray) (a b : Int) :
    (binOp .neq t (.agg #[.string s, .int .i64 a]) (.agg #[.string u, .int .i64 b])).run P w = .ok (.bool (!(s.toList == u.toList && a == b))) w := by
  have h := (run_sym_eq w ht s u a b).1
  rw [run_eql_struct] at h
  rw [run_neq_struct]
  generalize (Op.equalIn 10000 t (.agg #[.string s, .int .i64 a]) (.agg #[.string u, .int .i64 b])).run P w = R at *
  cases R with
  | ok b' w' => simp only [Result.andThen_ok, Result.ok.injEq, Value.bool.injEq] at h ⊢; obtain ⟨rfl, rfl⟩ := h; exact ⟨rfl, rfl⟩
  | halt x w' => simp [Result.andThen] at h
theorem AOp.sym_ne {x y : Operand} {s t : ByteArray} {a b : Int} {xT yT : TypeId} (ht : symTy P xT = true) (hx : aeval af x = some (.st [.str s, .int .i64 a])) (hy : aeval af y = some (.st [.str t, .int .i64 b])) :
    AOp P ⟨d, .binOp .neq xT x y yT, T, ps, es, gd⟩ af ah (D (.bool (!(s.toList == t.toList && a == b))) ah) :=
  AOp.of_pure fun S ac w hf _ => ⟨.bool (!(s.toList == t.toList && a == b)), by
    have h1 := run_sym_ne w ht s t a b
    have h2 := (run_sym_eq w ht s t a b).2
    simp only [execOp, rel_sym (aeval_rel hf hx), rel_sym (aeval_rel hf hy), Sem.run_bind]
    rw [run_eqGuard_agg w _ _ _ _ _ _ h2]
    simp [h1], mk_bool⟩
end
end Go.SX
