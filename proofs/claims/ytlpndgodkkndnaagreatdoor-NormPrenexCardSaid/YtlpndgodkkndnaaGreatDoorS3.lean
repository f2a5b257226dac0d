/- The library of abstract walks, part 3. -/
import Derived.Test.YtlpndgodkkndnaaGreatDoorS2
import Derived.Test.YtlpndgodkkndnaaGreatDoorS2
import Derived.Laws.RangeString
import Derived.Lib.AppendStr
import Derived.Lib.UnsafeStr
import Derived.Lib.Builder
import Derived.Laws.Externs
import Derived.Laws.IdiomStrings
import Derived.RangeFuncLeaves
import Derived.RangeFuncRecord
namespace Go.SX
open Go.RowKit
set_option linter.unusedVariables false
set_option linter.unusedSimpArgs false
theorem sizes_one : ∀ {fs : List AV}, (∀ y ∈ fs, y.size = 1) → AV.sizes fs = fs.length
 | [], _ => rfl
 | y :: fs, h => by rw [AV.sizes, h y (by simp), sizes_one fun z hz => h z (by simp [hz]), List.length_cons]; omega
section
variable {P : Program} {af : AF} {ah : AH} {d : Option Tmp} {T : TypeId} {ps : String} {es : Array Edge} {gd : Option (Nat × Bool)}
theorem AOp.index_own (sz : Nat) {x y : Operand} {b n c : Nat} {t : TypeId} {k : IntKind} {i : Int} (hx : aeval af x = some (.osl b n c)) (hy : aeval af y = some (.int k i)) (h0 : 0 ≤ i) (h1 : i < n)
  (he : esize P t = some sz) : AOp P ⟨d, .indexAddr t x y, T, ps, es, gd⟩ af ah (D (.ref b (i.toNat * sz)) ah) :=
 AOp.of_pure fun S a w hfr _ => by
  obtain ⟨hu, _, _⟩ := (aeval_rel hfr hx).osl
  refine ⟨_, by simp only [execOp, hu, (aeval_rel hfr hy).int, Sem.run_bind, run_indexAt he h0 h1, Result.andThen_ok]; simp; rfl, ?_⟩
  rw [addr_add]
  simpa using mk_ref
theorem AOp.index_val (sz : Nat) {x y : Operand} {A : Option Addr} {b n c : Nat} {t : TypeId} {k : IntKind} {i : Int} (hx : aeval af x = some (.val (.slice A n c))) (hA : A = some ⟨b, 0, none⟩) (hy : aeval af y = some (.int k i)) (h0 : 0 ≤ i) (h1 : i < n)
  (he : esize P t = some sz) : AOp P ⟨d, .indexAddr t x y, T, ps, es, gd⟩ af ah (D (.ref b (i.toNat * sz)) ah) :=
 AOp.of_pure fun S a w hfr _ => by
  subst hA
  have hu := (aeval_rel hfr hx).val
  refine ⟨_, by simp only [execOp, hu, (aeval_rel hfr hy).int, Sem.run_bind, run_indexAt he h0 h1, Result.andThen_ok]; simp; rfl, ?_⟩
  rw [addr_add]
  simpa using mk_ref
theorem row_size {S : Rg} {w : World} {b : Nat} {xs : List AV} {cs : Array Value} (hr : ∀ (i : Nat) x, xs[i]? = some x → ∃ v, cs[i]? = some v ∧ RelC S w x [v]) : xs.length ≤ cs.size := by
 rcases Nat.eq_zero_or_pos xs.length with h | h
 ·omega
 ·obtain ⟨v, hv, _⟩ := hr (xs.length - 1) xs[xs.length - 1] (List.getElem?_eq_getElem (by omega))
  have := (Array.getElem?_eq_some_iff.1 hv).1
  omega
theorem row_read {w w' : World} {b n c sz m : Nat} {cs : Array Value} {tt : TypeId} (hh : w.heap[b]? = some (.cells cs tt (0, 0))) (hw : w'.heap = w.heap) (hm : m * sz ≤ cs.size) :
  (Builtin.firstCells sz m (.slice (some ⟨b, 0, none⟩) n c)).run P w' = .ok (cs.toList.take (m * sz)).toArray w' := by
 simp only [Builtin.firstCells, loadCells]
 rw [run_loadCellsFrom _ 0 (cs.toList.take (m * sz)) #[] (by simp; omega) (fun k v hk => by
  rw [addr_add, cell_of_row w' b _ cs tt (0, 0) (by rw [hw]; exact hh)]
  rw [List.getElem?_take] at hk
  split at hk
  ·simpa using hk
  ·cases hk)]
 simp
theorem src_one {S : Rg} {w w' : World} {fs : List AV} {A : Option Addr} {c sz : Nat} (h : ([AV.st fs] : List AV) ≠ [] → ∃ b o sz, A = some ⟨b, o, none⟩ ∧ RelRow S w [AV.st fs] sz b o) (hf1 : ∀ y ∈ fs, y.size = 1) (hsz : fs.length = sz) (hw : w'.heap = w.heap) :
  ∃ ds : List Value, (Builtin.firstCells sz 1 (.slice A 1 c)).run P w' = .ok ds.toArray w' ∧ RelCs S w fs ds ∧ ds.length = sz := by
 obtain ⟨ds, h1, h2, h3⟩ := run_first (P := P) (w' := w') (c := c) (sz := sz) h (by intro y hy; rw [List.mem_singleton.1 hy]; simp only [AV.size]; rw [sizes_one hf1, hsz]) hw
 refine ⟨ds, h1, ?_, by simpa using h3⟩
 rw [RelCs] at h2
 obtain ⟨c1, c2, e, k1, k2⟩ := h2
 rw [RelCs] at k2
 subst k2
 rw [RelC] at k1
 rw [e, List.append_nil]
 exact k1
theorem AOp.append_own {x y : Operand} {b n c i sz e bytes : Nat} {us fs : List AV} {t t2 : TypeId} (hx : aeval af x = some (.osl b n c)) (hi : ah[i]? = some (.row b (us ++ List.replicate ((c - n) * sz) .any))) (hu : us.length = n * sz) (hy : aeval af y = some (.sl [.st fs])) (hfl : fs.length = sz) (hf1 : ∀ y ∈ fs, y.size = 1) (hok : AV.cellsOK fs = true)
  (ht : appTy P t = some (e, sz, bytes)) (ht2 : isSlTy P t2 = true) (hb : (n + 1) * bytes ≤ 140737488355328) (h63 : n + 1 ≤ 9223372036854775807) :
  AOp P ⟨d, .call ⟨.builtin .append, #[x, y], #[t, t2]⟩, T, ps, es, gd⟩ af ah (fun r h => ∃ b' c', n + 1 ≤ c' ∧ r = .ret (.osl b' (n + 1) c') ∧ h = ah.set i (.row b' (us ++ fs ++ List.replicate ((c' - (n + 1)) * sz) .any))) := .mk fun Fr a w hst hf => by
 obtain ⟨hux, hl1, hl2⟩ := (aeval_rel hf hx).osl
 obtain ⟨A2, c2, hu2, hl2', hm2, hrow2⟩ := srcOf_rel (aeval_rel hf hy) rfl
 have him := List.mem_of_getElem? hi
 obtain ⟨cs, tt, hh, hr⟩ := hst.rel _ him
 have hsz0 := row_size (b := b) hr
 have hcsz : n * sz + (c - n) * sz ≤ cs.size := by rw [List.length_append, hu, List.length_replicate] at hsz0; exact hsz0
 have hpos : 0 < sz := by obtain ⟨_, _, _, _, _, _, _, _, h⟩ := appTy_parts ht; exact h
 have hexec : ∀ r, (Builtin.append_ #[t, t2] T #[.slice (some ⟨b, 0, none⟩) n c, .slice A2 1 c2]).run P w = r → (execOp a.eval ⟨d, .call ⟨.builtin .append, #[x, y], #[t, t2]⟩, T, ps, es, gd⟩).run P w = r.andThen fun v w' => .ok (.value v) w' := by
  intro r hr
  simp only [execOp, resolve, invoke, builtin, Sem.run_bind, Sem.run_pure, Result.andThen_ok, List.map_toArray, List.map_cons, List.map_nil, hux, hu2]
  simp only [List.length_cons, List.length_nil, Nat.zero_add]
  rw [hr]
 by_cases hroom : n + 1 ≤ c
 ·obtain ⟨news, hn1, hn2, hn3⟩ := src_one (P := P) (w' := w) (c := c2) hrow2 hf1 hfl rfl
  have hrun := run_append_room (ty := T) (base := some ⟨b, 0, none⟩) (n := n) (cap := c) ht ht2 hn1 hroom
  have hmul : (c - n) * sz = sz + (c - (n + 1)) * sz := by rw [show c - n = (c - (n + 1)) + 1 by omega, Nat.add_mul]; omega
  obtain ⟨w', r1, k1, k2, k3⟩ := hst.laid (P := P) (ys := fs) (ds := news) (o := n * sz) hi (by rw [List.length_append, hu, List.length_replicate, hfl, hmul]; omega) (by rw [hn3, hfl]) (RelCs.cellOK _ news hn2 hok) (fun j y hj => RelCs.get1 hn2 hf1 j y hj)
  simp only [addr_add, Nat.zero_add, r1, Result.andThen_ok] at hrun
  rw [hexec _ hrun]
  simp only [Result.andThen_ok]
  have hrw : (us ++ List.replicate ((c - n) * sz) AV.any).take (n * sz) ++ fs ++ (us ++ List.replicate ((c - n) * sz) AV.any).drop (n * sz + fs.length) = us ++ fs ++ List.replicate ((c - (n + 1)) * sz) AV.any := by
   rw [← hu, List.take_left, hfl, ← List.drop_drop, List.drop_left, List.drop_replicate, hmul]
   congr 2
   omega
  rw [hrw] at k1 k3
  exact ⟨_, _, ⟨b, c, hroom, rfl, rfl⟩, ⟨_, rfl, mk_osl hroom hl2⟩, k1, k2, k3⟩
 ·obtain rfl : c = n := by omega
  obtain ⟨news, hn1, hn2, hn3⟩ := src_one (P := P) (w' := w.drew) (c := c2) hrow2 hf1 hfl rfl
  have ho1 := row_read (P := P) (w' := w.drew) (n := c) (c := c) (sz := sz) (m := c) hh rfl (by omega)
  obtain ⟨c', z, hc1, hc2, hzs, hrun⟩ := run_append_grow (ty := T) ht ht2 hn1 ho1 (by omega) hb (by simpa [maxLen] using h63)
  rw [hexec _ hrun]
  simp only [Result.andThen_ok]
  rw [Nat.sub_self, Nat.zero_mul, List.replicate_zero, List.append_nil] at hr hi
  have hol : (cs.toList.take (c * sz)).length = c * sz := by rw [List.length_take, Array.length_toList]; omega
  generalize hcs : (cs.toList.take (c * sz)).toArray ++ news.toArray ++ Builtin.zeroCells z.cells (c' - (c + 1)) = cs'
  have hcsz' : cs'.size = c' * sz := by
   rw [← hcs]
   simp only [Array.size_append, List.size_toArray, size_zeroCells, hol, hn3, hzs]
   rw [show c' * sz = (c + 1 + (c' - (c + 1))) * sz by congr 1; omega, Nat.add_mul, Nat.add_mul]
   omega
  have hext0 : Ext (fun _ _ => False) w (w.drew.alloc (.cells cs' e)) :=
   ⟨rfl, rfl, rfl, by simp, fun k hk _ => Below.heap_alloc w.drew _ k hk, fun ad v hc _ => (World.cell?_alloc_lt w.drew _ ad (cell_lt hc)).trans hc⟩
  obtain ⟨k1, k2, k3⟩ := hst.update (x' := .row w.heap.size (us ++ fs ++ List.replicate ((c' - (c + 1)) * sz) .any)) hi (hext0.mono fun _ _ h => h.elim) (fun k h => .inr (by simp only [Own.blk, Option.some.injEq] at h; omega))
   (fun k o hk h => by have h' : k = w.heap.size := h; omega) (fun k h => by simp only [Own.blk, Option.some.injEq] at h; subst h; simp) (fun m => by
    refine ⟨cs', e, heap_alloc_new w.drew _, fun j v hj => ?_⟩
    have hjl := (List.getElem?_eq_some_iff.1 hj).1
    simp only [List.length_append, List.length_replicate, hu, hfl] at hjl
    have e1 : c' * sz = c * sz + sz + (c' - (c + 1)) * sz := by
     rw [show c' * sz = (c + 1 + (c' - (c + 1))) * sz by congr 1; omega, Nat.add_mul, Nat.add_mul]; omega
    by_cases h1 : j < c * sz
    ·rw [List.append_assoc, List.getElem?_append_left (by omega)] at hj
     obtain ⟨u, hu1, hu2⟩ := hr j v hj
     refine ⟨u, ?_, RelC.mv m _ _ hu2⟩
     rw [← hcs, Array.append_assoc, Array.getElem?_append_left (by simp only [List.size_toArray]; omega)]
     simp only [List.getElem?_toArray]
     rw [List.getElem?_take, if_pos h1]
     simpa using hu1
    ·by_cases h2 : j < c * sz + sz
     ·rw [List.getElem?_append_left (by simp only [List.length_append, hu, hfl]; omega), List.getElem?_append_right (by omega), hu] at hj
      obtain ⟨u, hu1, hu2⟩ := RelCs.get1 hn2 hf1 _ v hj
      refine ⟨u, ?_, RelC.mv m _ _ hu2⟩
      rw [← hcs, Array.getElem?_append_left (by simp only [Array.size_append, List.size_toArray]; omega), Array.getElem?_append_right (by simp only [List.size_toArray]; omega)]
      simp only [List.getElem?_toArray, List.size_toArray, hol]
      exact hu1
     ·rw [List.getElem?_append_right (by simp only [List.length_append, hu, hfl]; omega), List.getElem?_replicate] at hj
      split at hj
      ·obtain rfl := Option.some.inj hj
       exact ⟨cs'[j]'(by omega), Array.getElem?_eq_getElem _, by simp [RelC]⟩
      ·cases hj)
  exact ⟨_, _, ⟨w.heap.size, c', hc1, rfl, rfl⟩, ⟨_, rfl, mk_osl hc1 hc2⟩, k1, k2, k3⟩
theorem AOp.append_own0 {x y : Operand} {sz e bytes : Nat} {fs : List AV} {t t2 : TypeId} (hx : aeval af x = some nilS) (hy : aeval af y = some (.sl [.st fs])) (hfl : fs.length = sz) (hf1 : ∀ y ∈ fs, y.size = 1)
  (ht : appTy P t = some (e, sz, bytes)) (ht2 : isSlTy P t2 = true) (hb : bytes ≤ 140737488355328) :
  AOp P ⟨d, .call ⟨.builtin .append, #[x, y], #[t, t2]⟩, T, ps, es, gd⟩ af ah (fun r h => ∃ b' c', 1 ≤ c' ∧ r = .ret (.osl b' 1 c') ∧ h = .row b' (fs ++ List.replicate ((c' - 1) * sz) .any) :: ah) := .mk fun Fr a w hst hf => by
 have hux := (aeval_rel hf hx).val
 obtain ⟨A2, c2, hu2, hl2', hm2, hrow2⟩ := srcOf_rel (aeval_rel hf hy) rfl
 have hexec : ∀ r, (Builtin.append_ #[t, t2] T #[.slice none 0 0, .slice A2 1 c2]).run P w = r → (execOp a.eval ⟨d, .call ⟨.builtin .append, #[x, y], #[t, t2]⟩, T, ps, es, gd⟩).run P w = r.andThen fun v w' => .ok (.value v) w' := by
  intro r hr
  simp only [execOp, resolve, invoke, builtin, Sem.run_bind, Sem.run_pure, Result.andThen_ok, List.map_toArray, List.map_cons, List.map_nil, hux, hu2]
  simp only [List.length_cons, List.length_nil, Nat.zero_add]
  rw [hr]
 obtain ⟨news, hn1, hn2, hn3⟩ := src_one (P := P) (w' := w.drew) (c := c2) hrow2 hf1 hfl rfl
 have hold : (Builtin.firstCells sz 0 (.slice none 0 0)).run P w.drew = .ok ([] : List Value).toArray w.drew := by simp [Builtin.firstCells]
 obtain ⟨c', z, hc1, hc2, hzs, hrun⟩ := run_append_grow (ty := T) ht ht2 hn1 hold (by omega) (by omega) (by simp [maxLen])
 rw [Nat.zero_add] at hc1 hrun
 rw [hexec _ hrun]
 simp only [Result.andThen_ok]
 generalize hcs : ([] : List Value).toArray ++ news.toArray ++ Builtin.zeroCells z.cells (c' - 1) = cs'
 have hcsz' : cs'.size = sz + (c' - 1) * sz := by
  rw [← hcs]
  simp only [Array.size_append, List.size_toArray, size_zeroCells, hn3, hzs, List.length_nil, Nat.zero_add]
 have hext0 : Ext (fun _ _ => False) w (w.drew.alloc (.cells cs' e)) :=
  ⟨rfl, rfl, rfl, by simp, fun k hk _ => Below.heap_alloc w.drew _ k hk, fun ad v hc _ => (World.cell?_alloc_lt w.drew _ ad (cell_lt hc)).trans hc⟩
 obtain ⟨k1, k2, k3⟩ := hst.cons (x := .row w.heap.size (fs ++ List.replicate ((c' - 1) * sz) .any)) (b := w.heap.size) rfl (Nat.le_refl _) (by simp) hext0 (fun m => by
   refine ⟨cs', e, heap_alloc_new w.drew _, fun j v hj => ?_⟩
   have hjl := (List.getElem?_eq_some_iff.1 hj).1
   simp only [List.length_append, List.length_replicate, hfl] at hjl
   by_cases h2 : j < sz
   ·rw [List.getElem?_append_left (by omega)] at hj
    obtain ⟨u, hu1, hu2⟩ := RelCs.get1 hn2 hf1 _ v hj
    refine ⟨u, ?_, RelC.mv m _ _ hu2⟩
    rw [← hcs, Array.getElem?_append_left (by simp only [Array.size_append, List.size_toArray, List.length_nil]; omega), Array.getElem?_append_right (by simp)]
    simpa using hu1
   ·rw [List.getElem?_append_right (by omega), List.getElem?_replicate] at hj
    split at hj
    ·obtain rfl := Option.some.inj hj
     exact ⟨cs'[j]'(by omega), Array.getElem?_eq_getElem _, by simp [RelC]⟩
    ·cases hj)
 exact ⟨_, _, ⟨w.heap.size, c', hc1, rfl, rfl⟩, ⟨_, rfl, mk_osl hc1 hc2⟩, k1, k2, k3⟩
end
section
variable {C : Cx} {ds : List Deferred} {ks : List K} {af : AF} {aq ae : AH} {ops : Array Oper} {n : Nat} {rem : List Nat} {vs : List AV} {q : Nat} {f : AF}
theorem AXO.append_own {x y : Operand} {b k c i sz e bytes dd : Nat} {us fs : List AV} {t t2 T : TypeId} {ps : String} {es : Array Edge} (hx : aeval f x = some (.osl b k c)) (hi : ae[i]? = some (.row b (us ++ List.replicate ((c - k) * sz) .any))) (hu : us.length = k * sz) (hy : aeval f y = some (.sl [.st fs])) (hfl : fs.length = sz) (hf1 : ∀ y ∈ fs, y.size = 1) (hok : AV.cellsOK fs = true)
  (ht : appTy C.P t = some (e, sz, bytes)) (ht2 : isSlTy C.P t2 = true) (hb : (k + 1) * bytes ≤ 140737488355328) (h63 : k + 1 ≤ 9223372036854775807)
  (hk : ∀ b' c', k + 1 ≤ c' → AX C ds ks ops af aq n (rem.erase q) (vs.set q (.osl b' (k + 1) c')) (ae.set i (.row b' (us ++ fs ++ List.replicate ((c' - (k + 1)) * sz) .any)))) : AXO C ds ks ops af aq n rem vs ae q ⟨some dd, .call ⟨.builtin .append, #[x, y], #[t, t2]⟩, T, ps, es, none⟩ f :=
 ⟨_, AOp.append_own hx hi hu hy hfl hf1 hok ht ht2 hb h63, by rintro _ _ ⟨b', c', h, e, rfl⟩; injection e with e; subst e; exact hk b' c' h, by rintro _ _ ⟨b', c', _, e, _⟩; cases e⟩
theorem AXO.append_own0 {x y : Operand} {sz e bytes dd : Nat} {fs : List AV} {t t2 T : TypeId} {ps : String} {es : Array Edge} (hx : aeval f x = some nilS) (hy : aeval f y = some (.sl [.st fs])) (hfl : fs.length = sz) (hf1 : ∀ y ∈ fs, y.size = 1)
  (ht : appTy C.P t = some (e, sz, bytes)) (ht2 : isSlTy C.P t2 = true) (hb : bytes ≤ 140737488355328)
  (hk : ∀ b' c', 1 ≤ c' → AX C ds ks ops af aq n (rem.erase q) (vs.set q (.osl b' 1 c')) (.row b' (fs ++ List.replicate ((c' - 1) * sz) .any) :: ae)) : AXO C ds ks ops af aq n rem vs ae q ⟨some dd, .call ⟨.builtin .append, #[x, y], #[t, t2]⟩, T, ps, es, none⟩ f :=
 ⟨_, AOp.append_own0 hx hy hfl hf1 ht ht2 hb, by rintro _ _ ⟨b', c', h, e, rfl⟩; injection e with e; subst e; exact hk b' c' h, by rintro _ _ ⟨b', c', _, e, _⟩; cases e⟩
end
theorem relc_frozen {Fr : Rg} {ah : AH} {w : World} (st : St Fr ah w) {i b n c : Nat} {xs : List AV} (hi : ah[i]? = some (.row b xs)) (hn : n = xs.length) (hs : ∀ x ∈ xs, x.size = 1) {cs' : List Value} (h : RelC (Sof Fr (ah.eraseIdx i)) w (.osl b n c) cs') : RelC (Sof Fr (ah.eraseIdx i)) w (.sl xs) cs' := by
 obtain ⟨cs, t, hh, hr⟩ := st.rel _ (List.mem_of_getElem? hi)
 have hbm := List.mem_of_getElem? hi
 have hsof : ∀ b o, Sof Fr (ah.eraseIdx i) b o → Sof Fr ah b o := fun b o hs => hs.elim .inl fun hr => .inr (reg_sub (List.eraseIdx_sublist ah i) hr)
 simp only [RelC] at h ⊢
 obtain ⟨rfl, hl1, hl2⟩ := h
 subst hn
 refine ⟨_, c, rfl, hl1, hl2, fun _ => ⟨b, 0, 1, rfl, ?_⟩⟩
 have hno : ∀ o, ¬ Sof Fr (ah.eraseIdx i) b o := by
  rintro o (hF | ⟨y, hy, hy'⟩)
  ·exact st.fr _ hbm b rfl _ hF
  ·have hyb := reg_blk hy'
   obtain ⟨e1, _⟩ := mem_split hi
   have hn := st.nodup
   rw [e1, List.filterMap_append, List.nodup_append, List.filterMap_cons] at hn
   simp only [Own.blk] at hn
   rw [List.eraseIdx_eq_take_drop_succ] at hy
   rcases List.mem_append.1 hy with hy | hy
   ·exact hn.2.2 b (List.mem_filterMap.2 ⟨y, hy, hyb⟩) b (by simp) rfl
   ·exact (List.nodup_cons.1 hn.2.1).1 (List.mem_filterMap.2 ⟨y, hy, hyb⟩)
 have key : ∀ (l : List AV) (o : Nat), (∀ (k : Nat) x, l[k]? = some x → ∃ v, cs[o + k]? = some v ∧ RelC (Sof Fr ah) w x [v]) → RelRow (Sof Fr (ah.eraseIdx i)) w l 1 b o := by
  intro l
  induction l with
  | nil => intro o _; simp [RelRow]
  | cons x l ih =>
   intro o h
   simp only [RelRow]
   obtain ⟨v, hv, hrv⟩ := h 0 x rfl
   refine ⟨⟨[v], rfl, RelC.mv (Mv.same w hsof) _ _ hrv, fun j u hj => ⟨hno _, ?_⟩⟩, ih (o + 1) fun k y hk => ?_⟩
   ·cases j with
    | zero => simp only [List.getElem?_cons_zero, Option.some.injEq] at hj; subst hj; rw [cell_of_row w b _ cs t (0, 0) hh]; exact hv
    | succ j => simp at hj
   ·obtain ⟨v, hv, hrv⟩ := h (k + 1) y (by simpa using hk)
    exact ⟨v, by rw [show o + 1 + k = o + (k + 1) by omega]; exact hv, hrv⟩
 exact key xs 0 fun k x hk => by rw [Nat.zero_add]; exact hr k x hk
section
variable {C : Cx} {ds : List Deferred} {ks : List K} {af : AF} {ah : AH}
end
section
variable {C : Cx} {ds : List Deferred} {ks : List K} {af : AF} {ah : AH}
end
section
variable {S : Rg} {w : World}
theorem rel_set : ∀ {fs : List AV} {i : Nat} {y z : AV} {cs : List Value}, fs[i]? = some y → (∀ cs, RelC S w y cs → RelC S w z cs) → RelCs S w fs cs → RelCs S w (fs.set i z) cs
 | [], i, y, z, cs, h, _, _ => by simp at h
 | x :: fs, 0, y, z, cs, h, k, hr => by
  obtain rfl : x = y := by simpa using h
  rw [RelCs] at hr
  obtain ⟨c1, c2, e, h1, h2⟩ := hr
  rw [List.set_cons_zero, RelCs]
  exact ⟨c1, c2, e, k _ h1, h2⟩
 | x :: fs, i + 1, y, z, cs, h, k, hr => by
  rw [RelCs] at hr
  obtain ⟨c1, c2, e, h1, h2⟩ := hr
  rw [List.set_cons_succ, RelCs]
  exact ⟨c1, c2, e, h1, rel_set (by simpa using h) k h2⟩
theorem relc_set {fs : List AV} {cs : List Value} (i : Nat) {y : AV} (z : AV) (hi : fs[i]? = some y) (k : ∀ cs, RelC S w y cs → RelC S w z cs) (h : RelC S w (.st fs) cs) : RelC S w (.st (fs.set i z)) cs := by
 rw [RelC] at h ⊢
 exact rel_set hi k h
end
section
variable {C : Cx} {ds : List Deferred} {ks : List K} {af : AF} {aq ae : AH} {ops : Array Oper} {n : Nat} {rem : List Nat} {vs : List AV} {q : Nat} {f : AF}
theorem AXO.box {dd : Nat} {x : Operand} {v : AV} {t T : TypeId} {ps : String} {es : Array Edge} (hx : aeval f x = some v) (hv : v.isAny = false) (hk : ∀ b, AX C ds ks ops af aq n (rem.erase q) (vs.set q (.ref b 0)) (.box b v :: ae)) : AXO C ds ks ops af aq n rem vs ae q ⟨some dd, .box t x, T, ps, es, none⟩ f :=
 ⟨_, AOp.box hx hv, by rintro _ _ ⟨b, e, rfl⟩; injection e with e; subst e; exact hk b, by rintro _ _ ⟨b, e, _⟩; cases e⟩
end
def strT (P : Program) (t : TypeId) : Bool := match P.underlying t with | some .string => true | _ => false
theorem run_range_str {P : Program} (w : World) (t : TypeId) (s : ByteArray) (hu : P.underlying t = some .string) :
  (Instr.range t (.string s)).run P w = .ok (.pointer (some ⟨w.heap.size, 0, none⟩)) (w.alloc (.stringIter s 0)) := by
 simp [Instr.range, underlying, Sem.run_bind, Sem.run, hu, newObj, Result.andThen]
section
variable {P : Program} {af : AF} {ah : AH}
variable {d : Option Tmp} {T : TypeId} {ps : String} {es : Array Edge} {gd : Option (Nat × Bool)}
theorem AOp.rangeS {x : Operand} {s : ByteArray} {t : TypeId} (hx : aeval af x = some (.str s)) (ht : strT P t = true) :
  AOp P ⟨d, .range t x, T, ps, es, gd⟩ af ah (fun r h => ∃ it, r = .ret (.ref it 0) ∧ h = .siter it s 0 :: ah) := .mk fun Fr a w hst hf => by
 have hu : P.underlying t = some .string := by unfold strT at ht; split at ht <;> simp_all
 have hrun : (execOp a.eval ⟨d, .range t x, T, ps, ‹Array Edge›, gd⟩).run P w = .ok (.value (.pointer (some ⟨w.heap.size, 0, none⟩))) (w.alloc (.stringIter s 0)) := by
  simp [execOp, (aeval_rel hf hx).str, run_range_str w t s hu]
 rw [hrun]
 have hx' : Ext (fun _ _ => False) w (w.alloc (.stringIter s 0)) := Ext.alloc _ _ _
 obtain ⟨k1, k2, k3⟩ := hst.cons (x := .siter w.heap.size s 0) (b := w.heap.size) rfl (Nat.le_refl _) (by simp) hx' (fun m => heap_alloc_new w _)
 exact ⟨_, _, ⟨_, rfl, rfl⟩, ⟨_, rfl, mk_ref⟩, k1, k2, k3⟩
theorem AOp.nextS_end {x : Operand} {it j : Nat} {s : ByteArray} {p : Nat} (hx : aeval af x = some (.ref it 0)) (hj : ah[j]? = some (.siter it s p)) (hp : ¬ p < s.size) :
  AOp P ⟨d, .next x true, T, ps, es, gd⟩ af ah (D (.tup [.bool false]) ah) := .mk fun Fr a w hst hf => by
 have hit : w.heap[it]? = some (.stringIter s p) := hst.rel _ (List.mem_of_getElem? hj)
 have hexec : (execOp a.eval ⟨d, .next x true, T, ps, ‹Array Edge›, gd⟩).run P w = .ok (.value (.tuple #[.bool false])) w := by
  simp [execOp, (aeval_rel hf hx).ref, Instr.next, getObj, Sem.run_bind, Sem.run, hit, hp, Result.andThen]
 rw [hexec]
 refine ⟨.ret (.tup [.bool false]), ah, ⟨rfl, rfl⟩, ⟨_, rfl, ?_, by simp [Shape]⟩, hst, Ext.refl _ _, fun _ _ _ h => h⟩
 simp only [RelC, Value.cells]
 refine ⟨[.bool false], rfl, ?_⟩
 simp only [RelVs]
 exact ⟨_, _, rfl, by simp [RelC, Value.cells], by simp [Shape], rfl⟩
theorem AOp.nextS {x : Operand} {it j : Nat} {s : ByteArray} {p : Nat} (hx : aeval af x = some (.ref it 0)) (hj : ah[j]? = some (.siter it s p)) (hp : p < s.size) :
  AOp P ⟨d, .next x true, T, ps, es, gd⟩ af ah (D (.tup [.bool true, .int .i64 p, .int .i32 (Utf8.decode s p).1]) (ah.set j (.siter it s (p + (Utf8.decode s p).2)))) := .mk fun Fr a w hst hf => by
 have hjm := List.mem_of_getElem? hj
 have hit : w.heap[it]? = some (.stringIter s p) := hst.rel _ hjm
 have hlt : it < w.heap.size := hst.lt _ hjm it rfl
 have hexec : (execOp a.eval ⟨d, .next x true, T, ps, ‹Array Edge›, gd⟩).run P w = .ok (.value (.tuple #[.bool true, .int .i64 p, .int .i32 (Utf8.decode s p).1])) { w with heap := w.heap.setIfInBounds it (.stringIter s (p + (Utf8.decode s p).2)) } := by
  simp [execOp, (aeval_rel hf hx).ref, Instr.next, getObj, setObj, Sem.run_bind, Sem.run, hit, hp, Result.andThen, goInt]
 rw [hexec]
 have hext0 : Ext (fun b' _ => b' = it) w { w with heap := w.heap.setIfInBounds it (.stringIter s (p + (Utf8.decode s p).2)) } := set_objE hit (by intro _ _ _ h; cases h)
 obtain ⟨k1, k2, k3⟩ := hst.update (x' := .siter it s (p + (Utf8.decode s p).2)) hj hext0 (fun _ h => .inl h) (fun _ _ _ h => h) (fun k' hk' => by simp only [Own.blk, Option.some.injEq] at hk'; subst hk'; exact Nat.lt_of_lt_of_le hlt hext0.size) (fun m => by
  show _ = _
  simp [Array.getElem?_setIfInBounds, hlt])
 refine ⟨.ret (.tup [.bool true, .int .i64 p, .int .i32 (Utf8.decode s p).1]), _, ⟨rfl, rfl⟩, ⟨_, rfl, ?_, by simp [Shape]⟩, k1, k2, k3⟩
 simp only [RelC]
 refine ⟨[.bool true, .int .i64 p, .int .i32 (Utf8.decode s p).1], rfl, ?_⟩
 simp only [RelVs]
 exact ⟨_, _, rfl, by simp [RelC, Value.cells], by simp [Shape], _, _, rfl, by simp [RelC, Value.cells], by simp [Shape], _, _, rfl, by simp [RelC, Value.cells], by simp [Shape], rfl⟩
end
section
variable {C : Cx} {ds : List Deferred} {ks : List K} {af : AF} {ah : AH} {ops : Array Oper} {rest : List Oper}
theorem AL.rangeS {dd : Nat} {x : Operand} {s : ByteArray} {t T : TypeId} {ps : String} {es : Array Edge} (hx : aeval af x = some (.str s)) (ht : strT C.P t = true) (hn : Nat.blt dd C.n = true)
  (hk : ∀ it, AL C ds ks ops rest ((dd, .ref it 0) :: af) (.siter it s 0 :: ah)) : AL C ds ks ops (⟨some dd, .range t x, T, ps, es, none⟩ :: rest) af ah :=
 AL.step rfl hn (AOp.rangeS hx ht) (by rintro _ _ ⟨it, e, rfl⟩; injection e with e; subst e; exact hk it) (by rintro _ _ ⟨it, e, _⟩; cases e)
end
theorem decode_lo {s : ByteArray} {p : Nat} (hp : p < s.size) (h : (s[p]'hp).toNat < 128) : Utf8.decode s p = ((s[p]'hp).toNat, 1) := decode_ascii s p hp h
theorem decode_hi {s : ByteArray} {p : Nat} (hp : p < s.size) (h : ¬ (s[p]'hp).toNat < 128) : 128 ≤ (Utf8.decode s p).1 := by
 have hg : s.get! p = s[p]'hp := getElem!_pos s.data p hp
 unfold Utf8.decode
 simp only [Nat.add_zero, hg, if_neg h]
 split
 ·split
  ·assumption
  ·decide
 ·split
  ·split
   ·rename_i h3; simp at h3; show 128 ≤ _; omega
   ·decide
  ·split
   ·split
    ·rename_i h3; simp at h3; show 128 ≤ _; omega
    ·decide
   ·decide
def arrTy (P : Program) (T : TypeId) : Option (Nat × Nat × List Value) :=
 match P.underlying T, P.info? T with
 | some (.array n e), some i => match P.info? e, i.zero with
  | some j, some z => some (n, j.size, z.cells.toList)
  | _, _ => none
 | _, _ => none
def arrPl (n sz : Nat) : List (Nat × Nat) := (List.range n).map fun i => (i * sz, sz)
section
variable {P : Program} {af : AF} {ah : AH}
variable {d : Option Tmp} {T : TypeId} {ps : String} {es : Array Edge} {gd : Option (Nat × Bool)}
theorem AOp.buildA {t : TypeId} {parts : Array (Nat × Operand)} {n sz : Nat} {zc : List Value} {z : AV} {vs : List (Nat × AV)} {fs : List AV} (ht : arrTy P t = some (n, sz, zc)) (hz : z.flat = some zc) (hx : aparts af parts.toList = some vs)
  (hb : buildAV (arrPl n sz) z vs = some (.st fs)) : AOp P ⟨d, .build t parts, T, ps, es, gd⟩ af ah (D (.st fs) ah) :=
 AOp.of_pure fun S a w hf _ => by
  unfold arrTy at ht
  split at ht
  ·rename_i m e i hu hi
   split at ht
   ·rename_i j zv hl hzv
    simp only [Option.some.injEq, Prod.mk.injEq] at ht
    obtain ⟨rfl, rfl, rfl⟩ := ht
    obtain ⟨h1, h2⟩ := aparts_rel hf hx
    obtain ⟨cells', hfill, hr⟩ := fill_build (S := S) (w := w) (places := arrPl m j.size) (place := fun i => some (i * j.size, j.size)) (fun i p h => by
     unfold arrPl at h; rw [List.getElem?_map] at h
     cases hr : (List.range m)[i]? with
     | none => rw [hr] at h; cases h
     | some q => rw [hr] at h; rw [List.getElem?_range (by have := (List.getElem?_eq_some_iff.1 hr).1; simpa using this)] at hr; obtain rfl := Option.some.inj hr; simpa using h) vs _ z (.st fs) zv.cells h1 h2 (RelC.flat z _ hz) hb
    refine ⟨.agg cells', ?_, by simpa [Value.cells] using hr, by simp [Shape]⟩
    have hpa : (Array.map (fun x : Nat × Operand => (x.1, a.eval x.2)) parts).toList = parts.toList.map fun (i, x) => (i, a.eval x) := by simp
    simp only [execOp, Instr.build, zeroValue, typeInfo, program, sizeOf, Sem.run_bind, Sem.run, hi, hl, hzv, Sem.run_pure, Sem.run_map, Result.andThen_ok, run_underlying hu]
    rw [hpa, hfill]
    rfl
   ·cases ht
  ·cases ht
theorem run_indexArr {t : TypeId} {A : Addr} {n sz : Nat} {zc : List Value} {k : IntKind} {i : Int} (he : arrTy P t = some (n, sz, zc)) (h0 : 0 ≤ i) (h1 : i < n) (w : World) :
  (Instr.indexAt t (.pointer (some A)) (.int k i)).run P w = .ok (.pointer (some (A.add (i.toNat * sz)))) w := by
 unfold arrTy at he
 split at he
 ·rename_i m e inf hu hi
  split at he
  ·rename_i j zv hl hzv
   simp only [Option.some.injEq, Prod.mk.injEq] at he
   obtain ⟨rfl, rfl, rfl⟩ := he
   simp [Instr.indexAt, Instr.sureAddr, asIntOf, run_underlying hu, h0, h1, sizeOf, typeInfo, hl]
  ·cases he
 ·cases he
theorem AOp.index_at {x y : Operand} {fs : List AV} {v : AV} {t : TypeId} {k : IntKind} {i : Int} {n sz : Nat} {zc : List Value} (hx : aeval af x = some (.at (.st fs))) (hy : aeval af y = some (.int k i)) (h0 : 0 ≤ i) (h1 : i < n) (hv : fs[i.toNat]? = some v)
  (he : arrTy P t = some (n, sz, zc)) (ho : AV.sizes (fs.take i.toNat) = i.toNat * sz) : AOp P ⟨d, .indexAddr t x y, T, ps, es, gd⟩ af ah (D (.at v) ah) :=
 AOp.of_pure fun S a w hfr _ => by
  obtain ⟨b, o, ds, hu, hr, hc⟩ := (aeval_rel hfr hx).at
  simp only [RelC] at hr
  obtain ⟨cs, e1, e2⟩ := hr.field i.toNat v hv
  refine ⟨.pointer (some ⟨b, o + i.toNat * sz, none⟩), by simp only [execOp, hu, (aeval_rel hfr hy).int, Sem.run_bind, run_indexArr he h0 h1, Result.andThen_ok, addr_add]; simp, ?_, by simp [Shape]⟩
  simp only [RelC, Value.cells]
  refine ⟨b, o + i.toNat * sz, cs, rfl, e1, fun j u hj => ?_⟩
  have := hc _ _ (e2 j u hj)
  rwa [ho, ← Nat.add_assoc] at this
def intT (P : Program) (s t : TypeId) : Option IntKind := match P.underlying s, P.underlying t with | some _, some (.int k) => some k | _, _ => none
theorem AOp.conv {s t : TypeId} {x : Operand} {k k' : IntKind} {n m : Int} (hx : aeval af x = some (.int k n)) (ht : intT P s t = some k') (hm : k'.wrap n = m) : AOp P ⟨d, .convert s t x, T, ps, es, gd⟩ af ah (D (.int k' m) ah) :=
 AOp.of_pure fun S a w hfr _ => by
  unfold intT at ht
  split at ht
  ·rename_i ds k1 h1 h2
   obtain rfl := Option.some.inj ht
   refine ⟨.int k1 m, ?_, by simp [RelC, Value.cells], by simp [Shape]⟩
   subst hm
   simp only [execOp, (aeval_rel hfr hx).int, convert, Conv.intToInt, Sem.run_bind, run_underlying h1, run_underlying h2, Result.andThen_ok, Sem.run_pure]
  ·cases ht
end
section
variable {P : Program} {af : AF} {ah : AH} {d : Option Tmp} {T : TypeId} {ps : String} {es : Array Edge} {gd : Option (Nat × Bool)}
theorem exec_append {w : World} {a : Act} {x y : Operand} {t t2 : TypeId} {u1 u2 : Value} (h1 : a.eval x = u1) (h2 : a.eval y = u2) {r : Result Value} (hr : (Builtin.append_ #[t, t2] T #[u1, u2]).run P w = r) :
  (execOp a.eval ⟨d, .call ⟨.builtin .append, #[x, y], #[t, t2]⟩, T, ps, es, gd⟩).run P w = r.andThen fun v w' => .ok (.value v) w' := by
 simp only [execOp, resolve, invoke, builtin, Sem.run_bind, Sem.run_pure, Result.andThen_ok, List.map_toArray, List.map_cons, List.map_nil, h1, h2]
 rw [hr]
theorem AOp.append_i {x y : Operand} {b i e bytes : Nat} {us tl : List AV} {v : AV} {t t2 : TypeId} {c0 : Value} (hx : aeval af x = some (.osl b us.length (us.length + tl.length))) (hi : ah[i]? = some (.row b (us ++ tl))) (hy : aeval af y = some (.sl [v])) (hv : v.size = 1) (hok : AV.cellsOK [v] = true)
  (ht : rowTy P t = some (e, c0, bytes)) (ht2 : isSlTy P t2 = true) (hb : (us.length + 1) * bytes ≤ 140737488355328) (h63 : us.length + 1 ≤ 9223372036854775807) :
  AOp P ⟨d, .call ⟨.builtin .append, #[x, y], #[t, t2]⟩, T, ps, es, gd⟩ af ah (fun r h => ∃ b' tl', r = .ret (.osl b' (us ++ [v]).length ((us ++ [v]).length + tl'.length)) ∧ h = ah.set i (.row b' (us ++ [v] ++ tl'))) := by
 have hsz : ∀ y ∈ [v], y.size = 1 := by intro y hy; rw [List.mem_singleton.1 hy]; exact hv
 cases tl with
 | cons t0 tl =>
  refine .mk fun Fr a w hst hf => ?_
  have h := (AOp.append_osl (d := d) (T := T) (ps := ps) (es := es) (gd := gd) hx hi (by simp) hy rfl ht ht2 hsz hok (by simp)).out Fr a w hst hf
  have e1 : (us ++ t0 :: tl).take us.length ++ [v] ++ (us ++ t0 :: tl).drop (us.length + [v].length) = us ++ [v] ++ tl := by
   rw [List.take_left, ← List.drop_drop, List.drop_left]; rfl
  rw [e1] at h
  have e2 : us.length + (t0 :: tl).length = (us ++ [v]).length + tl.length := by simp; omega
  have e3 : us.length + [v].length = (us ++ [v]).length := by simp
  rw [e2, e3] at h
  exact Out.mono (fun _ _ => EndR.mono fun x q ⟨q1, q2⟩ => ⟨b, tl, q1, q2⟩) h
 | nil =>
  refine .mk fun Fr a w hst hf => ?_
  rw [List.append_nil] at hi
  rw [List.length_nil, Nat.add_zero] at hx
  obtain ⟨hux, hl1, hl2⟩ := (aeval_rel hf hx).osl
  obtain ⟨A2, c2, hu2, hl2', hm2, hrow2⟩ := srcOf_rel (aeval_rel hf hy) rfl
  have him := List.mem_of_getElem? hi
  obtain ⟨cs, tt, hh, hr⟩ := hst.rel _ him
  have hsz0 := row_size (b := b) hr
  obtain ⟨news, hn1, hn2, hn3⟩ := run_first (P := P) (w' := w.drew) (c := c2) (sz := 1) hrow2 hsz rfl
  have ho1 := row_read (P := P) (w' := w.drew) (n := us.length) (c := us.length) (sz := 1) (m := us.length) hh rfl (by omega)
  obtain ⟨c', z, hc1, hc2, hzs, hrun⟩ := run_append_grow (ty := T) (appRow ht) ht2 hn1 ho1 (by simp) (by simpa using hb) (by simpa [maxLen] using h63)
  rw [exec_append hux hu2 hrun]
  simp only [Result.andThen_ok]
  have hol : (cs.toList.take (us.length * 1)).length = us.length := by rw [List.length_take, show cs.toList.length = cs.size from rfl]; omega
  have hn3' : news.length = 1 := by simpa using hn3
  simp only [List.length_singleton] at hc1
  generalize hcs : (cs.toList.take (us.length * 1)).toArray ++ news.toArray ++ Builtin.zeroCells z.cells (c' - (us.length + [v].length)) = cs'
  have hcsz' : cs'.size = c' := by
   rw [← hcs]
   simp only [Array.size_append, List.size_toArray, size_zeroCells, hol, hn3', hzs, List.length_singleton]
   omega
  have hext0 : Ext (fun _ _ => False) w (w.drew.alloc (.cells cs' e)) :=
   ⟨rfl, rfl, rfl, by simp, fun k hk _ => Below.heap_alloc w.drew _ k hk, fun ad v hc _ => (World.cell?_alloc_lt w.drew _ ad (cell_lt hc)).trans hc⟩
  obtain ⟨k1, k2, k3⟩ := hst.update (x' := .row w.heap.size (us ++ [v] ++ List.replicate (c' - (us.length + 1)) .any)) hi (hext0.mono fun _ _ h => h.elim) (fun k h => .inr (by simp only [Own.blk, Option.some.injEq] at h; omega))
   (fun k o hk h => by have h' : k = w.heap.size := h; omega) (fun k h => by simp only [Own.blk, Option.some.injEq] at h; subst h; simp) (fun m => by
    refine ⟨cs', e, heap_alloc_new w.drew _, fun j u hj => ?_⟩
    have hjl := (List.getElem?_eq_some_iff.1 hj).1
    simp only [List.length_append, List.length_replicate, List.length_singleton] at hjl
    by_cases h1 : j < us.length
    ·rw [List.append_assoc, List.getElem?_append_left h1] at hj
     obtain ⟨q, hu1, hu2⟩ := hr j u hj
     refine ⟨q, ?_, RelC.mv m _ _ hu2⟩
     rw [← hcs, Array.append_assoc, Array.getElem?_append_left (by simp only [List.size_toArray]; omega)]
     simp only [List.getElem?_toArray]
     rw [List.getElem?_take, if_pos (by omega)]
     simpa using hu1
    ·by_cases h2 : j < us.length + 1
     ·rw [List.getElem?_append_left (by simp only [List.length_append, List.length_singleton]; omega), List.getElem?_append_right (by omega)] at hj
      obtain ⟨q, hu1, hu2⟩ := RelCs.get1 hn2 hsz _ u hj
      refine ⟨q, ?_, RelC.mv m _ _ hu2⟩
      rw [← hcs, Array.getElem?_append_left (by simp only [Array.size_append, List.size_toArray]; omega), Array.getElem?_append_right (by simp only [List.size_toArray]; omega)]
      simp only [List.getElem?_toArray, List.size_toArray, hol]
      exact hu1
     ·rw [List.getElem?_append_right (by simp only [List.length_append, List.length_singleton]; omega), List.getElem?_replicate] at hj
      split at hj
      ·obtain rfl := Option.some.inj hj
       exact ⟨cs'[j]'(by omega), Array.getElem?_eq_getElem _, by simp [RelC]⟩
      ·cases hj)
  have e3 : us.length + [v].length = (us ++ [v]).length := by simp
  have e4 : c' = (us ++ [v]).length + (List.replicate (c' - (us.length + 1)) AV.any).length := by simp; omega
  refine ⟨.ret (.osl w.heap.size (us ++ [v]).length ((us ++ [v]).length + (List.replicate (c' - (us.length + 1)) AV.any).length)), _, ⟨w.heap.size, _, rfl, rfl⟩, ⟨_, rfl, ?_⟩, k1, k2, k3⟩
  rw [← e4, ← e3]
  exact mk_osl (by simpa using hc1) hc2
theorem AOp.append_i0 {x y : Operand} {e bytes : Nat} {v : AV} {t t2 : TypeId} {c0 : Value} (hx : aeval af x = some nilS) (hy : aeval af y = some (.sl [v])) (hv : v.size = 1)
  (ht : rowTy P t = some (e, c0, bytes)) (ht2 : isSlTy P t2 = true) (hb : bytes ≤ 140737488355328) :
  AOp P ⟨d, .call ⟨.builtin .append, #[x, y], #[t, t2]⟩, T, ps, es, gd⟩ af ah (fun r h => ∃ b' tl', r = .ret (.osl b' [v].length ([v].length + tl'.length)) ∧ h = .row b' ([v] ++ tl') :: ah) := .mk fun Fr a w hst hf => by
 have hsz : ∀ y ∈ [v], y.size = 1 := by intro y hy; rw [List.mem_singleton.1 hy]; exact hv
 have hux := (aeval_rel hf hx).val
 obtain ⟨A2, c2, hu2, hl2', hm2, hrow2⟩ := srcOf_rel (aeval_rel hf hy) rfl
 obtain ⟨news, hn1, hn2, hn3⟩ := run_first (P := P) (w' := w.drew) (c := c2) (sz := 1) hrow2 hsz rfl
 have hold : (Builtin.firstCells 1 0 (.slice none 0 0)).run P w.drew = .ok ([] : List Value).toArray w.drew := by simp [Builtin.firstCells]
 obtain ⟨c', z, hc1, hc2, hzs, hrun⟩ := run_append_grow (ty := T) (appRow ht) ht2 hn1 hold (by simp) (by simpa using hb) (by simp [maxLen])
 rw [exec_append hux hu2 hrun]
 simp only [Result.andThen_ok]
 have hn3' : news.length = 1 := by simpa using hn3
 simp only [List.length_singleton, Nat.zero_add] at hc1
 generalize hcs : ([] : List Value).toArray ++ news.toArray ++ Builtin.zeroCells z.cells (c' - (0 + [v].length)) = cs'
 have hcsz' : cs'.size = c' := by
  rw [← hcs]
  simp only [Array.size_append, List.size_toArray, size_zeroCells, hn3', hzs, List.length_nil, Nat.zero_add, List.length_singleton]
  omega
 have hext0 : Ext (fun _ _ => False) w (w.drew.alloc (.cells cs' e)) :=
  ⟨rfl, rfl, rfl, by simp, fun k hk _ => Below.heap_alloc w.drew _ k hk, fun ad v hc _ => (World.cell?_alloc_lt w.drew _ ad (cell_lt hc)).trans hc⟩
 obtain ⟨k1, k2, k3⟩ := hst.cons (x := .row w.heap.size ([v] ++ List.replicate (c' - 1) .any)) (b := w.heap.size) rfl (Nat.le_refl _) (by simp) hext0 (fun m => by
   refine ⟨cs', e, heap_alloc_new w.drew _, fun j u hj => ?_⟩
   have hjl := (List.getElem?_eq_some_iff.1 hj).1
   simp only [List.length_append, List.length_replicate, List.length_singleton] at hjl
   by_cases h2 : j < 1
   ·rw [List.getElem?_append_left (by simpa using h2)] at hj
    obtain ⟨q, hu1, hu2⟩ := RelCs.get1 hn2 hsz _ u hj
    refine ⟨q, ?_, RelC.mv m _ _ hu2⟩
    rw [← hcs, Array.getElem?_append_left (by simp only [Array.size_append, List.size_toArray, List.length_nil]; omega), Array.getElem?_append_right (by simp)]
    simpa using hu1
   ·rw [List.getElem?_append_right (by simp; omega), List.getElem?_replicate] at hj
    split at hj
    ·obtain rfl := Option.some.inj hj
     exact ⟨cs'[j]'(by omega), Array.getElem?_eq_getElem _, by simp [RelC]⟩
    ·cases hj)
 have e4 : c' = [v].length + (List.replicate (c' - 1) AV.any).length := by simp; omega
 refine ⟨.ret (.osl w.heap.size [v].length ([v].length + (List.replicate (c' - 1) AV.any).length)), _, ⟨w.heap.size, _, rfl, rfl⟩, ⟨_, rfl, ?_⟩, k1, k2, k3⟩
 rw [← e4, Nat.zero_add]
 exact mk_osl (by simpa using hc1) hc2
end
section
variable {P : Program} {fn : Func} {n : Nat} {Fr R0 : Rg} {w0 : World} {Φ : AEnd → AH → Prop} {ks : List K} {af : AF} {ah : AH} {ds : List Deferred}
theorem leave1n {a : Act} {w : World} {f : FuncId} {caps : List AV} {cs : List Value} {u : FrameMode} (g : Good (CofD P fn n Fr R0 w0 Φ) ds af ah a w) (hu : u ≠ .run) (hc : concs caps = some cs) (hno : fn.results.toList = [])
  (h : TriD P f caps ah u (fun u' h => settle u' = .returning ∧ ∃ h', h'.Sublist h ∧ Φ (.ret (.tup [])) h')) :
  Leaves P fn a.tmps (EndR Fr R0 w0 Φ) [{ target := .fn (.func f) cs.toArray, args := #[] }] u w := by
 refine leaves_cons (f := f) (args := cs.toArray) hu ?_ ((h.out Fr w cs g.st (concs_mk hc)).mono fun e u' w' ⟨⟨v, hv⟩, ah', ⟨hset, h', hs, hΦ⟩, hst, hext, hnew⟩ => ?_)
 ·simp only [invoke]
  rw [run_callFunc h.1]
  simp
 ·subst hv
  simp only
  rw [hset]
  have g' := (g.next (d := none) (v := .any) (u := undef) rfl ⟨by simp [RelC, undef, Value.cells], by simp [Shape]⟩ hst hext hnew).sub hs
  exact leave0 g' (vs := []) (by rw [hno]; exact .nil) hΦ
theorem AW.retD1n {f : FuncId} {caps : List AV} {cs : List Value} (hc : concs caps = some cs) (hno : fn.results.toList = []) (h : TriD P f caps ah .returning (fun u' h => settle u' = .returning ∧ ∃ h', h'.Sublist h ∧ Φ (.ret (.tup [])) h')) :
  AW (CofD P fn n Fr R0 w0 Φ) [{ target := .fn (.func f) cs.toArray, args := #[] }] (.c .ret :: ks) af ah := AW.ret fun a w g => by
 show Leaves _ _ _ _ a.defers _ _
 rw [g.defers]; exact leave1n g (by simp) hc hno h
theorem AW.doneD1n {f : FuncId} {caps : List AV} {cs : List Value} (hc : concs caps = some cs) (hno : fn.results.toList = []) (h : TriD P f caps ah .returning (fun u' h => settle u' = .returning ∧ ∃ h', h'.Sublist h ∧ Φ (.ret (.tup [])) h')) :
  AW (CofD P fn n Fr R0 w0 Φ) [{ target := .fn (.func f) cs.toArray, args := #[] }] [] af ah := AW.done fun a w g => by
 show Leaves _ _ _ _ a.defers _ _
 rw [g.defers]; exact leave1n g (by simp) hc hno h
end
section
variable {P : Program} {af : AF} {ah : AH} {d : Option Tmp} {T : TypeId} {ps : String} {es : Array Edge} {gd : Option (Nat × Bool)}
theorem AOp.lookS_nil {α : Type} (i e : Nat) (zv : Value) {x y : Operand} {b : Nat} {g : α → AV} {A : List (ByteArray × α)} {gm : MG} {k : ByteArray} {t : TypeId} (h : lookA A k = none) (hx : aeval af x = some (.map b)) (hi : ah[i]? = some (.map b (kvW g A) gm)) (hy : aeval af y = some (.str k)) (ht : strMap P t e = true) (hz : (P.info? e).bind (·.zero) = some zv) (hag : (Shape (.val zv) zv)) :
  AOp P ⟨d, .lookup t x y false, T, ps, es, gd⟩ af ah (D (.val zv) ah) := AOp.of_pure fun S a w hfr hown => by
 obtain ⟨kt, hu, hk⟩ := mapTy_parts (strMap_eq ht)
 obtain ⟨ens, h1, _, h3, h4, _⟩ := own_map (hown _ (List.mem_of_getElem? hi))
 have hky := aeval_rel hfr hy
 obtain ⟨hmiss, _⟩ := findNow_eq hky rfl (kvW g A) ens.toList 0 (by simpa using h3) (keysOK_kvW g A) (fun j k v hj => by simpa using h4 j k v hj)
 have hr := run_findKey (P := P) (w := w) hk (hmiss (mfind_none h))
 have hc := run_checkKey hk hky rfl ens.isEmpty
 have hzero : (zeroValue e).run P w = .ok zv w := by
  cases hi' : P.info? e with
  | none => simp [hi'] at hz
  | some inf => simp only [hi', Option.bind_some] at hz; simp [zeroValue, typeInfo, hi', hz]
 refine ⟨zv, ?_, ⟨by simp [RelC], hag⟩⟩
 simp [execOp, Instr.lookup, (aeval_rel hfr hx).map, Sem.run_bind, run_underlying hu, Result.andThen_ok, run_getObj_map h1, Sem.run_pure, hc, hr, hzero]
end
structure Stk where
 b : Nat
 l : List Int
 tl : List AV
def Stk.av (t : Stk) : AV := .osl t.b (t.l.map iav).length ((t.l.map iav).length + t.tl.length)
def Stk.row (t : Stk) : Own := .row t.b (t.l.map iav ++ t.tl)
def rowsA (A : List (ByteArray × Stk)) : AH := A.map fun p => p.2.row
def envA (A : List (ByteArray × Stk)) (s : ByteArray) : List Int := match lookA A s with | some t => t.l | none => []
theorem setA_hit {α : Type} {A : List (ByteArray × α)} {k : ByteArray} {v : α} (h : lookA A k = some v) : ∃ j, A[j]? = some (k, v) ∧ ∀ u, setA A k u = A.set j (k, u) := by
 induction A with
 | nil => cases h
 | cons p A ih =>
  obtain ⟨k', w⟩ := p
  simp only [lookA] at h
  by_cases e : k = k'
  ·rw [if_pos e] at h
   subst e
   obtain rfl := Option.some.inj h
   exact ⟨0, rfl, fun u => by simp [setA]⟩
  ·rw [if_neg e] at h
   obtain ⟨j, h1, h2⟩ := ih h
   exact ⟨j + 1, by simpa using h1, fun u => by simp [setA, e, h2]⟩
theorem setA_miss {α : Type} {A : List (ByteArray × α)} {k : ByteArray} (h : lookA A k = none) (u : α) : setA A k u = A ++ [(k, u)] := by
 induction A with
 | nil => rfl
 | cons p A ih =>
  obtain ⟨k', w⟩ := p
  simp only [lookA] at h
  by_cases e : k = k'
  ·rw [if_pos e] at h; cases h
  ·rw [if_neg e] at h
   simp [setA, e, ih h]
theorem look_setA {α : Type} (F : List (ByteArray × α)) (k k' : ByteArray) (v : α) : lookA (setA F k v) k' = if k' = k then some v else lookA F k' := by
 induction F with
 | nil => simp only [setA, lookA]
 | cons p F ih =>
  obtain ⟨q, u⟩ := p
  rw [setA]
  by_cases e : k = q
  ·subst e; rw [if_pos rfl]; simp only [lookA]; split <;> rfl
  ·rw [if_neg e]; simp only [lookA, ih]
   by_cases e2 : k' = q
   ·rw [if_pos e2, if_pos e2, if_neg (fun h => e (h.symm.trans e2))]
   ·rw [if_neg e2, if_neg e2]
theorem rowsA_set (A : List (ByteArray × Stk)) (j : Nat) (k : ByteArray) (t : Stk) : rowsA (A.set j (k, t)) = (rowsA A).set j t.row := by simp [rowsA, List.map_set]
theorem rowsA_get {A : List (ByteArray × Stk)} {j : Nat} {k : ByteArray} {t : Stk} (h : A[j]? = some (k, t)) : (rowsA A)[j]? = some t.row := by simp [rowsA, h]
theorem sel_skip : ∀ (a b : AH) (m : List Bool), sel (List.replicate a.length false ++ m) (a ++ b) = sel m b ∧ uns (List.replicate a.length false ++ m) (a ++ b) = a ++ uns m b
 | [], b, m => ⟨rfl, rfl⟩
 | x :: a, b, m => by
  have h := sel_skip a b m
  simp only [List.length_cons, List.replicate_succ, List.cons_append, sel, uns, h.1, h.2, and_self]
theorem Tri.front {P : Program} {f : FuncId} {args : List AV} {b : AH} {Φ : AEnd → AH → Prop} (h : Tri P f args b Φ) (a : AH) : Tri P f args (a ++ b) (fun x h => ∃ h1, Φ x h1 ∧ h = h1 ++ a) := by
 have h0 := sel_all b []
 rw [List.append_nil] at h0
 have h1 := sel_skip a b (List.replicate b.length true)
 rw [h0.1, h0.2, List.append_nil] at h1
 have h2 := Tri.frame (ah := a ++ b) (List.replicate a.length false ++ List.replicate b.length true) (by rw [h1.1]; exact h)
 rw [h1.2] at h2
 exact h2
section
variable {P : Program} {af : AF} {ah : AH} {d : Option Tmp} {T : TypeId} {ps : String} {es : Array Edge} {gd : Option (Nat × Bool)}
theorem eq_slice_nilIn (w : World) (d : Nat) (t e : TypeId) (a : Option Addr) (l c : Nat) (h : P.underlying t = some (.slice e)) : (Op.equalIn (d + 1) t (.slice a l c) (.slice none 0 0)).run P w = .ok a.isNone w := by
 cases a <;> simp [Op.equalIn, run_underlying h]
theorem eq_slice_nil (w : World) (t e : TypeId) (a : Option Addr) (l c : Nat) (h : P.underlying t = some (.slice e)) : (Op.equal t (.slice a l c) (.slice none 0 0)).run P w = .ok a.isNone w := eq_slice_nilIn w 9999 t e a l c h
theorem AOp.slice_nil {x : Operand} {xs : List AV} {t yT : TypeId} (hx : aeval af x = some (.sl xs)) (ht : isSlTy P t = true) :
  AOp P ⟨d, .binOp .eql t x (.const (.slice none 0 0)) yT, T, ps, es, gd⟩ af ah (fun r h => ∃ B : Bool, (xs ≠ [] → B = false) ∧ r = .ret (.bool B) ∧ h = ah) := .mk fun Fr a w hst hf => by
 obtain ⟨A, c, hu, h1, h2, h3⟩ := srcOf_rel (aeval_rel hf hx) rfl
 obtain ⟨e, hut⟩ : ∃ e, P.underlying t = some (.slice e) := by
  unfold isSlTy at ht
  split at ht
  ·exact ⟨_, by assumption⟩
  ·cases ht
 have hc : a.eval (.const (.slice none 0 0)) = .slice none 0 0 := rfl
 have hrun : (execOp a.eval ⟨d, .binOp .eql t x (.const (.slice none 0 0)) yT, T, ps, es, gd⟩).run P w = .ok (.value (.bool A.isNone)) w := by
  simp only [execOp, hu, hc]
  simp [eqGuard, binOp, eq_slice_nil w t e A _ c hut]
 rw [hrun]
 refine ⟨_, _, ⟨A.isNone, fun hne => ?_, rfl, rfl⟩, ⟨_, rfl, mk_bool⟩, hst, Ext.refl _ _, fun _ _ _ h => h⟩
 obtain ⟨b, o, sz, rfl, _⟩ := h3 hne
 rfl
end
section
variable {C : Cx} {ds : List Deferred} {ks : List K} {af : AF} {ah : AH} {ops : Array Oper} {rest : List Oper}
theorem AL.slice_nil {dd : Nat} {x : Operand} {xs : List AV} {t yT T : TypeId} {ps : String} {es : Array Edge} (hx : aeval af x = some (.sl xs)) (ht : isSlTy C.P t = true) (hn : Nat.blt dd C.n = true)
  (hk : ∀ B : Bool, (xs ≠ [] → B = false) → AL C ds ks ops rest ((dd, .bool B) :: af) ah) : AL C ds ks ops (⟨some dd, .binOp .eql t x (.const (.slice none 0 0)) yT, T, ps, es, none⟩ :: rest) af ah :=
 AL.step rfl hn (AOp.slice_nil hx ht) (by rintro _ _ ⟨B, h, e, rfl⟩; injection e with e; subst e; exact hk B h) (by rintro _ _ ⟨B, _, e, _⟩; cases e)
theorem AL.lit_own {t T e sz k dd : Nat} {parts : Array (Nat × Operand)} {xs : List Operand} {us : List AV} {ps : String} {es : Array Edge} (ht : litTy C.P t = some (e, sz)) (hp : litOps 0 parts.toList = some xs) (hx : aevals af xs = some us) (hn : us.length = k) (hsz : ∀ v ∈ us, v.size = sz) (hb : k * sz ≤ 16777216) (hd : Nat.blt dd C.n = true)
  (hk : ∀ b, AL C ds ks ops rest ((dd, .slt us (some b) k) :: af) (.tail (some b) k k sz :: ah)) : AL C ds ks ops (⟨some dd, .buildSlice t k parts, T, ps, es, none⟩ :: rest) af ah :=
 AL.step rfl hd (AOp.lit_own ht hp hx hn hsz hb) (by rintro _ _ ⟨b, e, rfl⟩; injection e with e; subst e; exact hk b) (by rintro _ _ ⟨b, e, _⟩; cases e)
end
section
variable {P : Program} {af : AF} {ah : AH} {d : Option Tmp} {T : TypeId} {ps : String} {es : Array Edge} {gd : Option (Nat × Bool)}
end
def Wk (c c' : AV) : Prop := ∀ (S : Rg) (w : World) (cs : List Value), RelC S w c cs → RelC S w c' cs
def Wks (c c' : List AV) : Prop := ∀ (S : Rg) (w : World) (cs : List Value), RelCs S w c cs → RelCs S w c' cs
theorem Wk.refl (c : AV) : Wk c c := fun _ _ _ h => h
theorem Wk.slt {xs : List AV} {b : Option Nat} {c : Nat} : Wk (.slt xs b c) (.sl xs) := fun S w cs h => slt_sl _ _ _ h
theorem Wks.nil : Wks [] [] := fun _ _ _ h => h
theorem Wks.cons {x y : AV} {xs ys : List AV} (h : Wk x y) (k : Wks xs ys) : Wks (x :: xs) (y :: ys) := fun S w cs hr => by
 rw [RelCs] at hr ⊢
 obtain ⟨c1, c2, e, h1, h2⟩ := hr
 exact ⟨c1, c2, e, h S w _ h1, k S w _ h2⟩
theorem Wk.st {xs ys : List AV} (h : Wks xs ys) : Wk (.st xs) (.st ys) := fun S w cs hr => by
 rw [RelC] at hr ⊢
 exact h S w cs hr
section
variable {C : Cx} {ds : List Deferred} {ks : List K} {af : AF} {ah : AH} {ops : Array Oper} {rest : List Oper}
theorem AW.weak_box (i : Nat) {b : Nat} {c : AV} (c' : AV) (hi : ah[i]? = some (.box b c)) (hw : Wk c c') (k : AW C ds ks af (ah.set i (.box b c'))) : AW C ds ks af ah := .mk fun a w g => by
 obtain ⟨cs, tt, hh, hrc⟩ := g.st.rel _ (List.mem_of_getElem? hi)
 obtain ⟨k1, k2, k3⟩ := g.st.update (x' := .box b c') hi (Ext.refl _ w) (fun k hk => .inl hk) (fun _ _ _ h => h)
  (fun k hk => by simp only [Own.blk, Option.some.injEq] at hk; subst hk; exact g.st.lt _ (List.mem_of_getElem? hi) b rfl) (fun m => ⟨cs, tt, hh, RelC.mv m _ _ (hw _ _ _ hrc)⟩)
 exact k.out a w (g.next (d := none) (v := .any) (u := undef) rfl ⟨by simp [RelC, undef, Value.cells], by simp [Shape]⟩ k1 k2 k3)
end
def bytesAV (s : ByteArray) : List AV := s.data.toList.map fun b => .int .u8 b.toNat
theorem bytesAV_length (s : ByteArray) : (bytesAV s).length = s.size := by simp [bytesAV]
theorem bytesAV_rel {S : Rg} {w : World} {s : ByteArray} {j : Nat} {x : AV} (h : (bytesAV s)[j]? = some x) : ∃ v, (Lib.strCells s)[j]? = some v ∧ RelC S w x [v] := by
 simp only [bytesAV, List.getElem?_map, Option.map_eq_some_iff] at h
 obtain ⟨b, hb, rfl⟩ := h
 exact ⟨.int .u8 b.toNat, by simp only [Lib.strCells, List.getElem?_map, hb, Option.map_some], by simp [RelC]⟩
def byteTy (P : Program) (T : TypeId) : Option TypeId := match P.underlying T with
 | some (.slice e) => match P.info? e with
  | some i => match i.zero with
   | some z => match z.cells.toList with
    | [.int .u8 0] => bif Nat.beq i.size 1 && Nat.beq i.bytes 1 then some e else none
    | _ => none
   | none => none
  | none => none
 | _ => none
theorem byteTy_parts {P : Program} {T e : TypeId} (h : byteTy P T = some e) : P.underlying T = some (.slice e) ∧ ∃ i z, P.info? e = some i ∧ i.zero = some z ∧ z.cells = #[.int .u8 0] ∧ i.size = 1 ∧ i.bytes = 1 := by
 unfold byteTy at h
 split at h
 ·rename_i e' hu
  split at h
  ·rename_i i hi
   split at h
   ·rename_i z hz
    split at h
    ·rename_i hc
     cases hb : Nat.beq i.size 1 && Nat.beq i.bytes 1 with
     | false => rw [hb] at h; cases h
     | true =>
      rw [hb] at h
      simp only [cond_true, Option.some.injEq] at h
      subst h
      simp only [Bool.and_eq_true, nbeq_iff] at hb
      exact ⟨hu, i, z, hi, hz, Array.ext' hc, hb.1, hb.2⟩
    ·cases h
   ·cases h
  ·cases h
 ·cases h
def strTyB (P : Program) (T : TypeId) : Bool := match P.underlying T with | some .string => true | _ => false
theorem strTyB_eq {P : Program} {T : TypeId} (h : strTyB P T = true) : P.underlying T = some .string := by
 unfold strTyB at h
 split at h
 ·assumption
 ·cases h
section
variable {P : Program} {af : AF} {ah : AH} {d : Option Tmp} {T : TypeId} {ps : String} {es : Array Edge} {gd : Option (Nat × Bool)}
theorem AOp.alloc_t {t : TypeId} {zs : List AV} (ht : zeroCells P t = AV.flats zs) (hz : (AV.flats zs).isSome = true) (h1 : ∀ x ∈ zs, x.size = 1) :
  AOp P ⟨d, .alloc t, T, ps, es, gd⟩ af ah (fun e h => ∃ b, e = .ret (.ref b 0) ∧ h = .trow b t zs :: ah) := .mk fun Fr a w hst hf => by
 cases hi : P.info? t with
 | none => simp [zeroCells, hi] at ht; rw [← ht] at hz; cases hz
 | some i =>
  cases hzz : i.zero with
  | none => simp [zeroCells, hi, hzz] at ht; rw [← ht] at hz; cases hz
  | some v =>
   simp only [zeroCells, hi, hzz, Option.bind_some, Option.map_some] at ht
   rw [run_alloc_op hi hzz]
   have hx' : Ext (fun _ _ => False) w (w.alloc (.cells v.cells t)) := Ext.alloc _ _ _
   obtain ⟨k1, k2, k3⟩ := hst.cons (x := .trow w.heap.size t zs) (b := w.heap.size) rfl (Nat.le_refl _) (by simp) hx' (fun m => by
    have hr := RelCs.flat (S := Sof Fr (.trow w.heap.size t zs :: ah)) (w := w.alloc (.cells v.cells t)) zs _ ht.symm
    have hl := RelCs.size zs _ hr
    rw [sizes_one h1] at hl
    refine ⟨v.cells, heap_alloc_new w _, by simpa using hl, fun j x hj => ?_⟩
    obtain ⟨u, hu, hru⟩ := RelCs.get1 hr h1 j x hj
    exact ⟨u, by simpa using hu, hru⟩)
   exact ⟨_, _, ⟨_, rfl, rfl⟩, ⟨_, rfl, mk_ref⟩, k1, k2, k3⟩
theorem AOp.load_tcell (i : Nat) {x : Operand} {b off : Nat} {xs : List AV} {v : AV} {t bt : TypeId} (hx : aeval af x = some (.ref b off)) (hi : ah[i]? = some (.trow b bt xs)) (hs : xs[off]? = some v) (hv : (!v.isAny && Nat.beq v.size 1) = true)
  (ht : tkind P t = some (v.isSt, v.size)) : AOp P ⟨d, .load t x, T, ps, es, gd⟩ af ah (D v ah) := AOp.of_pure fun S a w hf ho => by
 simp only [Bool.and_eq_true, Bool.not_eq_true', nbeq_iff] at hv
 obtain ⟨cs, hh, _, hr⟩ := ho _ (List.mem_of_getElem? hi)
 obtain ⟨c, hc, hd⟩ := hr off v hs
 obtain ⟨u, h1, h2⟩ := run_loadVar (P := P) (w := w) (b := b) (o := off) hv.1 ht hd (fun j u hj => by
  cases j with
  | zero =>
   simp only [List.getElem?_cons_zero, Option.some.injEq] at hj; subst hj
   rw [cell_of_row w b _ cs bt (0, 0) hh]; exact hc
  | succ j => simp at hj)
 exact ⟨u, by simp [execOp, (aeval_rel hf hx).ref, Instr.loadAt, Instr.sureAddr, h1], h2⟩
theorem St.laid_t {P : Program} {Fr : Rg} {w : World} (hst : St Fr ah w) {b bt i o : Nat} {xs ys : List AV} {ds : List Value} (hi : ah[i]? = some (.trow b bt xs)) (ho : o + ys.length ≤ xs.length) (hd : ds.length = ys.length) (h1 : ∀ v ∈ ds, v.oneCell' = true)
  (hy : ∀ (i : Nat) y, ys[i]? = some y → ∃ v, ds[i]? = some v ∧ RelC (Sof Fr ah) w y [v]) :
  ∃ w', (storeCells ⟨b, o, none⟩ ds 0).run P w = .ok () w' ∧ St Fr (ah.set i (.trow b bt (xs.take o ++ ys ++ xs.drop (o + ys.length)))) w' ∧ Ext (reg ah) w w' ∧ ∀ k o', k < w.heap.size → reg (ah.set i (.trow b bt (xs.take o ++ ys ++ xs.drop (o + ys.length)))) k o' → reg ah k o' := by
 obtain ⟨cs, hh, hsz, hr⟩ := hst.rel _ (List.mem_of_getElem? hi)
 obtain ⟨w', r1, r2, r3, r4, e1, e2, e3⟩ := run_storeCells (P := P) (b := b) (t := bt) o ds 0 w cs hh (by omega) h1
 have hext : Ext (Own.trow b bt xs).reg w w' := ⟨e1, e2, e3, by omega, fun k hk hn => r3 k (fun e => hn 0 e), fun a v hc hn => (World.cell?_of_block (r3 a.block (fun e => hn e))).trans hc⟩
 obtain ⟨k1, k2, k3⟩ := hst.update (x' := .trow b bt (xs.take o ++ ys ++ xs.drop (o + ys.length))) hi hext (fun k hk => .inl hk) (fun _ _ _ h => h)
  (fun k hk => by simp only [Own.blk, Option.some.injEq] at hk; subst hk; exact Nat.lt_of_lt_of_le (hst.lt _ (List.mem_of_getElem? hi) b rfl) hext.size) (fun m => by
   refine ⟨_, r2, ?_, fun j x hx => ?_⟩
   ·have hl : (lay cs.toList (o + 0) ds).length = cs.size := by
     simp only [lay, List.length_append, List.length_take, List.length_drop, Array.length_toList]; omega
    simp only [List.size_toArray, hl, List.length_append, List.length_take, List.length_drop]; omega
   ·obtain ⟨v, hv, hrv⟩ := row_lay (S := Sof Fr ah) (w := w) hr (by omega) hd hy j x hx (by omega)
    exact ⟨v, hv, RelC.mv m _ _ hrv⟩)
 exact ⟨w', r1, k1, k2, k3⟩
theorem AOp.store_tcell {x y : Operand} {b bt off : Nat} {xs : List AV} {v : AV} {t : TypeId} {i : Nat} {g : Bool} (hx : aeval af x = some (.ref b off)) (hy : aeval af y = some v) (hi : ah[i]? = some (.trow b bt xs)) (hs : off < xs.length) (hok : v.cellOK = true) (hz : v.size = 1)
  (ht : tkind P t = some (g, v.size)) : AOp P ⟨d, .store t x y, T, ps, es, gd⟩ af ah (fun e h => (∃ u, e = .ret u) ∧ h = ah.set i (.trow b bt (xs.set off v))) := .mk fun Fr a w hst hf => by
 have hr := aeval_rel hf hy
 have hsz := RelC.size v _ hr.1
 obtain ⟨c, hc⟩ : ∃ c, (a.eval y).cells.toList = [c] := by
  match h : (a.eval y).cells.toList, (show (a.eval y).cells.toList.length = 1 by omega) with
  | [c], _ => exact ⟨c, rfl⟩
 obtain ⟨w', r1, k1, k2, k3⟩ := St.laid_t hst (P := P) (ys := [v]) (ds := [c]) (o := off) hi (by simp; omega) rfl (fun u hu => RelC.cellOK v _ hr.1 hok u (by rw [hc]; exact hu)) (fun j y hj => by
  cases j with
  | zero => simp only [List.getElem?_cons_zero, Option.some.injEq] at hj; subst hj; exact ⟨c, rfl, hc ▸ hr.1⟩
  | succ j => simp at hj)
 rw [set_eq hs] at k1 k3
 have hrun : (execOp a.eval ⟨d, .store t x y, T, ps, es, gd⟩).run P w = .ok .skip w' := by
  have : (storeVar t ⟨b, off, none⟩ (a.eval y)).run P w = .ok () w' := by
   unfold storeVar
   simp only [Sem.run_bind, run_sizeOf ht, Result.andThen_ok]
   rw [if_neg (by simp at hsz; simp [hsz]), hc]
   exact r1
  simp [execOp, (aeval_rel hf hx).ref, Instr.storeAt, Instr.sureAddr, this]
 rw [hrun]
 exact ⟨.ret .any, _, ⟨⟨_, rfl⟩, rfl⟩, ⟨_, rfl, by simp [RelC, undef, Value.cells], by simp [Shape]⟩, k1, k2, k3⟩
def arrE (P : Program) (T : TypeId) : Option (Nat × TypeId) := match P.underlying T with | some (.array n e) => some (n, e) | _ => none
theorem arrE_eq {P : Program} {t e : TypeId} {n : Nat} (he : arrE P t = some (n, e)) : P.underlying t = some (.array n e) := by
 unfold arrE at he
 split at he
 ·rename_i n' e' h
  simp only [Option.some.injEq, Prod.mk.injEq] at he
  rw [h, he.1, he.2]
 ·cases he
theorem AOp.index_arr {x y : Operand} {fs : List AV} {s : ByteArray} {t e : TypeId} {k : IntKind} {i : Int} {n : Nat} (hx : aeval af x = some (.st fs)) (hy : aeval af y = some (.int k i)) (h0 : 0 ≤ i) (h1 : i < n) (hv : fs[i.toNat]? = some (.str s))
  (he : arrE P t = some (n, e)) (hk : tkind P e = some (false, 1)) (ho : AV.sizes (fs.take i.toNat) = i.toNat) : AOp P ⟨d, .index t x y, T, ps, es, gd⟩ af ah (D (.str s) ah) :=
 AOp.of_pure fun S a w hfr _ => by
  have hu := arrE_eq he
  obtain ⟨hr, cs, hcs⟩ := aeval_rel hfr hx
  simp only [hcs, Value.cells, RelC] at hr
  obtain ⟨c1, e1, e2⟩ := hr.field i.toNat _ hv
  rw [ho] at e2
  simp only [RelC] at e1
  subst e1
  have hc := e2 0 _ rfl
  simp only [Nat.add_zero, Array.getElem?_toList] at hc
  have hpart : (Go.part e cs (i.toNat * 1)).run P w = .ok (.string s) w := by
   unfold Go.part
   simp only [Sem.run_bind, run_isAgg hk, Result.andThen_ok, Nat.mul_one]
   simp [hc]
  exact ⟨.string s, by simp only [execOp, hcs, (aeval_rel hfr hy).int, Instr.index, Sem.run_bind, asIntOf, Sem.run_pure, Result.andThen_ok, run_underlying hu, h0, h1, and_self, if_true, run_sizeOf hk, hpart], mk_str⟩
theorem AOp.index_arrA {x y : Operand} {fs gs : List AV} {t e : TypeId} {k : IntKind} {i : Int} {n : Nat} (hx : aeval af x = some (.st fs)) (hy : aeval af y = some (.int k i)) (h0 : 0 ≤ i) (h1 : i < n) (hv : fs[i.toNat]? = some (.st gs))
  (he : arrE P t = some (n, e)) (hk : tkind P e = some (true, AV.sizes gs)) (ho : AV.sizes (fs.take i.toNat) = i.toNat * AV.sizes gs) : AOp P ⟨d, .index t x y, T, ps, es, gd⟩ af ah (D (.st gs) ah) :=
 AOp.of_pure fun S a w hfr _ => by
  have hu := arrE_eq he
  obtain ⟨hr, cs, hcs⟩ := aeval_rel hfr hx
  simp only [hcs, Value.cells, RelC] at hr
  obtain ⟨c1, e1, e2⟩ := hr.field i.toNat _ hv
  have hl := RelC.size _ c1 e1
  simp only [AV.size] at hl
  rw [ho] at e2
  have hpart : (Go.part e cs (i.toNat * AV.sizes gs)).run P w = .ok (.agg (cs.extract (i.toNat * AV.sizes gs) (i.toNat * AV.sizes gs + AV.sizes gs))) w := by
   unfold Go.part
   simp only [Sem.run_bind, run_isAgg hk, Result.andThen_ok]
   simp [run_sizeOf hk]
  refine ⟨.agg (cs.extract (i.toNat * AV.sizes gs) (i.toNat * AV.sizes gs + AV.sizes gs)), by simp only [execOp, hcs, (aeval_rel hfr hy).int, Instr.index, Sem.run_bind, asIntOf, Sem.run_pure, Result.andThen_ok, run_underlying hu, h0, h1, and_self, if_true, run_sizeOf hk, hpart], ?_, by simp [Shape]⟩
  have hx : (cs.extract (i.toNat * AV.sizes gs) (i.toNat * AV.sizes gs + AV.sizes gs)).toList = c1 := by
   apply List.ext_getElem?
   intro j
   rw [Array.toList_extract, List.extract_eq_take_drop, List.getElem?_take, List.getElem?_drop]
   by_cases hj : j < AV.sizes gs
   ·rw [if_pos (by omega)]
    obtain ⟨u, hu⟩ : ∃ u, c1[j]? = some u := ⟨c1[j]'(by omega), List.getElem?_eq_getElem _⟩
    rw [hu, e2 j u hu]
   ·rw [if_neg (by omega), List.getElem?_eq_none (by omega)]
  simp only [Value.cells]
  rw [hx]
  exact e1
def ptrTo (P : Program) (T : TypeId) (u : TypeId) : Bool := match P.underlying T with | some (.pointer v) => v == u | _ => false
theorem ptrTo_eq {P : Program} {T u : TypeId} (h : ptrTo P T u = true) : P.underlying T = some (.pointer u) := by
 unfold ptrTo at h
 split at h
 ·rename_i v hv
  simp only [beq_iff_eq] at h
  rw [hv, h]
 ·cases h
theorem eq_ptr_nil (w : World) (t u : TypeId) (p : Option Addr) (h : P.underlying t = some (.pointer u)) : (Op.equal t (.pointer p) (.pointer none)).run P w = .ok p.isNone w := by
 have hp : P.pointee t = u := by simp [Program.pointee, h]
 exact run_equal_pointer_nil w t p (by rw [hp]; exact h)
theorem AOp.ptr_nil_ref (u : TypeId) {x : Operand} {b o : Nat} {t yT : TypeId} (hx : aeval af x = some (.ref b o)) (ht : ptrTo P t u = true) : AOp P ⟨d, .binOp .eql t x (.const (.pointer none)) yT, T, ps, es, gd⟩ af ah (D (.bool false) ah) :=
 AOp.of_pure fun S a w hf _ => ⟨.bool false, by
  have hu := (aeval_rel hf hx).ref
  have hc : a.eval (.const (.pointer none)) = .pointer none := rfl
  simp only [execOp, hu, hc]
  simp [eqGuard, binOp, eq_ptr_nil w t u _ (ptrTo_eq ht)], mk_bool⟩
theorem AOp.ptr_nil_nil (u : TypeId) {x : Operand} {t yT : TypeId} (hx : aeval af x = some (.val (.pointer none))) (ht : ptrTo P t u = true) : AOp P ⟨d, .binOp .eql t x (.const (.pointer none)) yT, T, ps, es, gd⟩ af ah (D (.bool true) ah) :=
 AOp.of_pure fun S a w hf _ => ⟨.bool true, by
  have hu := (aeval_rel hf hx).val
  have hc : a.eval (.const (.pointer none)) = .pointer none := rfl
  simp only [execOp, hu, hc]
  simp [eqGuard, binOp, eq_ptr_nil w t u _ (ptrTo_eq ht)], mk_bool⟩
theorem AOp.ptr_ne_self (u : TypeId) {x y : Operand} {b o : Nat} {t yT : TypeId} (hx : aeval af x = some (.ref b o)) (hy : aeval af y = some (.ref b o)) (ht : ptrTo P t u = true) (hi : (P.info? u).isSome = true) : AOp P ⟨d, .binOp .neq t x y yT, T, ps, es, gd⟩ af ah (D (.bool false) ah) :=
 AOp.of_pure fun S a w hf _ => ⟨.bool false, by
  obtain ⟨j, hj⟩ := Option.isSome_iff_exists.1 hi
  simp only [execOp, (aeval_rel hf hx).ref, (aeval_rel hf hy).ref]
  have h := Lib.run_neq_ptr_same w ⟨b, o, none⟩ (ptrTo_eq ht) hj
  simp [eqGuard, h], mk_bool⟩
def unsB (P : Program) (T : TypeId) : Bool := match P.underlying T with | some .unsafePointer => true | _ => false
theorem unsB_eq {P : Program} {T : TypeId} (h : unsB P T = true) : P.underlying T = some .unsafePointer := by
 unfold unsB at h
 split at h
 ·assumption
 ·cases h
theorem AOp.conv_un (i u : TypeId) {x : Operand} {b bt : Nat} {xs : List AV} {src dst : TypeId} (hx : aeval af x = some (.ref b 0)) (hi : ah[i]? = some (.trow b bt xs)) (hs : ptrTo P src u = true) (hd : unsB P dst = true) (hsz : (match P.info? u with | some j => !Nat.beq j.size 0 | none => false) = true) (hn : 0 < xs.length) :
  AOp P ⟨d, .convert src dst x, T, ps, es, gd⟩ af ah (D (.ref b 0) ah) := AOp.of_pure fun S a w hf ho => by
 obtain ⟨cs, hh, hl, _⟩ := ho _ (List.mem_of_getElem? hi)
 have hsh : w.shape? b = some (bt, cs.size) := by simp [World.shape?, hh]
 cases hj : P.info? u with
 | none => rw [hj] at hsz; cases hsz
 | some j =>
  rw [hj] at hsz
  have hj0 : j.size ≠ 0 := fun h => by simp only [h] at hsz; cases hsz
  have h := Lib.run_to_unsafe w ⟨b, 0, none⟩ (ptrTo_eq hs) (unsB_eq hd) hj hj0 hsh (show 0 < cs.size by omega)
  exact ⟨_, by simp only [execOp, (aeval_rel hf hx).ref, h, Sem.run_bind, Result.andThen_ok]; simp, mk_ref⟩
theorem AOp.conv_from (i : Nat) {x : Operand} {b bt : Nat} {xs : List AV} {src dst : TypeId} (hx : aeval af x = some (.ref b 0)) (hi : ah[i]? = some (.trow b bt xs)) (hs : unsB P src = true) (hd : ptrTo P dst bt = true) (hu : (P.info? bt).isSome = true) (hl : liesAt P P.depth bt (xs.length / P.cellsOf bt) 0 bt 1 = true) :
  AOp P ⟨d, .convert src dst x, T, ps, es, gd⟩ af ah (D (.ref b 0) ah) := AOp.of_pure fun S a w hf ho => by
 obtain ⟨cs, hh, hl', _⟩ := ho _ (List.mem_of_getElem? hi)
 have hsh : w.shape? b = some (bt, cs.size) := by simp [World.shape?, hh]
 obtain ⟨j, hj⟩ := Option.isSome_iff_exists.1 hu
 have h := Lib.run_from_unsafe w ⟨b, 0, none⟩ (unsB_eq hs) (ptrTo_eq hd) hj hsh (by rw [hl']; exact hl)
 exact ⟨_, by simp only [execOp, (aeval_rel hf hx).ref, h, Sem.run_bind, Result.andThen_ok]; simp, mk_ref⟩
theorem AOp.call_same {f : FuncId} {fn : Func} {y x : Operand} {tys : Array TypeId} {v : AV} (hy : aeval af y = some (.fn f [])) (hx : aeval af x = some v) (hf : P.funcs[f]? = some fn) (hname : (fn.name == "runtime.NumGoroutine") = false) (hb : fn.body.isNone = true) (hn : Extern.findNext fn = none) (he : Extern.find fn = some Extern.AbiNoEscape.same) :
  AOp P ⟨d, .call ⟨.value y, #[x], tys⟩, T, ps, es, gd⟩ af ah (D v ah) := AOp.of_pure fun S a w hfr _ => by
 obtain ⟨vs, hv, hc⟩ := (aeval_rel hfr hy).fn
 have hvs : vs = [] := by cases vs with | nil => rfl | cons _ _ => simp [RelVs] at hc
 subst hvs
 have hr := aeval_rel hfr hx
 refine ⟨a.eval x, ?_, hr⟩
 simp [execOp, resolve, hv, Deferred.ofValue, invoke, run_callFunc_extern hf hname hb hn he, Lib.run_noEscape]
theorem AOp.append_str {x y : Operand} {g i e : Nat} {us tl : List AV} {s : ByteArray} {t t2 : TypeId} (hx : aeval af x = some (.osl g us.length (us.length + tl.length))) (hi : ah[i]? = some (.trow g e (us ++ tl))) (hy : aeval af y = some (.str s))
  (ht : byteTy P t = some e) (ht2 : strTyB P t2 = true) (hb : us.length + s.size ≤ 140737488355328) :
  AOp P ⟨d, .call ⟨.builtin .append, #[x, y], #[t, t2]⟩, T, ps, es, gd⟩ af ah (fun r h => ∃ g' tl', r = .ret (.osl g' (us ++ bytesAV s).length ((us ++ bytesAV s).length + tl'.length)) ∧ h = ah.set i (.trow g' e (us ++ bytesAV s ++ tl'))) := .mk fun Fr a w hst hf => by
 obtain ⟨hu, ii, z, hii, hz, hzc, hs1, hb1⟩ := byteTy_parts ht
 obtain ⟨hux, hl1, hl2⟩ := (aeval_rel hf hx).osl
 have huy := (aeval_rel hf hy).str
 obtain ⟨cs, hh, hsz, hr⟩ := hst.rel _ (List.mem_of_getElem? hi)
 have hsz' : cs.size = us.length + tl.length := by rw [hsz, List.length_append]
 have hbl := bytesAV_length s
 have e3 : (us ++ bytesAV s).length = us.length + s.size := by rw [List.length_append, hbl]
 by_cases hroom : us.length + s.size ≤ us.length + tl.length
 ·have hrun := Lib.run_append_room_string (P := P) w t t2 T e ii hu (strTyB_eq ht2) hii hs1 g us.length (us.length + tl.length) cs hh s hroom (by omega)
  rw [exec_append hux huy hrun]
  simp only [Result.andThen_ok]
  generalize hC : (cs.toList.take us.length ++ Lib.strCells s ++ cs.toList.drop (us.length + s.size)).toArray = C at *
  have hcs : C = (lay cs.toList us.length (Lib.strCells s)).toArray := by rw [← hC, lay, Lib.strCells_length]
  have hg := setRow_heap w g cs C e (0, 0) hh
  have hrest : ∀ k, k ≠ g → (w.setRow g C).heap[k]? = w.heap[k]? := fun k hk => by simp [World.setRow, Array.getElem?_modify, Ne.symm hk]
  have hsize : (w.setRow g C).heap.size = w.heap.size := by simp [World.setRow]
  have hext : Ext (Own.trow g e (us ++ tl)).reg w (w.setRow g C) := ⟨rfl, rfl, rfl, by omega, fun k hk hn => hrest k (fun e => hn 0 e), fun ad v hc hn => (World.cell?_of_block (hrest ad.block (fun e => hn e))).trans hc⟩
  have hCl : C.size = cs.size := by
   rw [hcs]
   simp only [lay, List.size_toArray, List.length_append, List.length_take, List.length_drop, Array.length_toList, Lib.strCells_length]; omega
  have hxs : (us ++ tl).take us.length ++ bytesAV s ++ (us ++ tl).drop (us.length + (bytesAV s).length) = us ++ bytesAV s ++ tl.drop s.size := by
   rw [List.take_left, ← List.drop_drop, List.drop_left, hbl]
  obtain ⟨k1, k2, k3⟩ := hst.update (x' := .trow g e (us ++ bytesAV s ++ tl.drop s.size)) hi hext (fun k hk => .inl hk) (fun _ _ _ h => h)
   (fun k hk => by simp only [Own.blk, Option.some.injEq] at hk; subst hk; exact Nat.lt_of_lt_of_le (hst.lt _ (List.mem_of_getElem? hi) g rfl) hext.size) (fun m => by
    refine ⟨C, hg, ?_, fun j x hx => ?_⟩
    ·simp only [List.length_append, List.length_drop, hbl]; omega
    ·rw [← hxs] at hx
     obtain ⟨v, hv, hrv⟩ := row_lay (S := Sof Fr ah) (w := w) (ds := Lib.strCells s) hr (by rw [hbl]; omega) (by rw [Lib.strCells_length, hbl]) (fun j y hy => bytesAV_rel hy) j x hx (by simp)
     rw [← hcs] at hv
     exact ⟨v, hv, RelC.mv m _ _ hrv⟩)
  refine ⟨.ret (.osl g (us ++ bytesAV s).length ((us ++ bytesAV s).length + (tl.drop s.size).length)), _, ⟨g, tl.drop s.size, rfl, rfl⟩, ⟨_, rfl, ?_⟩, k1, k2, k3⟩
  have e4 : (us ++ bytesAV s).length + (tl.drop s.size).length = us.length + tl.length := by rw [e3, List.length_drop]; omega
  rw [e4, e3]
  exact mk_osl hroom hl2
 ·have holds : ∀ (j : Nat) v, (cs.toList.take (us.length))[j]? = some v → w.cell? ((⟨g, 0, none⟩ : Addr).add j) = some v := fun j v hj => by
   rw [addr_add, cell_of_row w g _ cs e (0, 0) hh]
   rw [List.getElem?_take] at hj
   split at hj
   ·simpa using hj
   ·cases hj
  have hol : (cs.toList.take us.length).length = us.length := by rw [List.length_take, show cs.toList.length = cs.size from rfl]; omega
  have hfit := growslice_fits (bytes := 1) (need := us.length + s.size) (old := us.length + tl.length) (by omega) (by omega)
  have hrun := Lib.run_append_grow_string (P := P) w t t2 T e ii z hu (strTyB_eq ht2) hii hz ⟨g, 0, none⟩ us.length (us.length + tl.length) (cs.toList.take us.length) (by rw [hol, hs1, Nat.mul_one]) holds s (by omega) (by omega) (by rw [hb1]; exact hfit)
  rw [exec_append hux huy hrun]
  simp only [Result.andThen_ok]
  have hk1 := grownCap_ge w (us.length + s.size) (us.length + tl.length) e
  have hk2 := grownCap_le_maxLen w (us.length + s.size) (us.length + tl.length) e (by unfold maxLen; omega)
  generalize grownCap w (us.length + s.size) (us.length + tl.length) e = c' at *
  generalize hC : (cs.toList.take us.length).toArray ++ (Lib.strCells s).toArray ++ Builtin.zeroCells z.cells (c' - (us.length + s.size)) = C at *
  have hCl : C.size = c' := by
   rw [← hC, hzc]
   simp only [Array.size_append, List.size_toArray, hol, Lib.strCells_length, size_zeroCells]
   simp; omega
  have hext0 : Ext (fun _ _ => False) w (w.drew.alloc (.cells C e)) :=
   ⟨rfl, rfl, rfl, by simp, fun k hk _ => Below.heap_alloc w.drew _ k hk, fun ad v hc _ => (World.cell?_alloc_lt w.drew _ ad (cell_lt hc)).trans hc⟩
  obtain ⟨k1, k2, k3⟩ := hst.update (x' := .trow w.heap.size e (us ++ bytesAV s ++ List.replicate (c' - (us.length + s.size)) .any)) hi (hext0.mono fun _ _ h => h.elim) (fun k h => .inr (by simp only [Own.blk, Option.some.injEq] at h; omega))
   (fun k o hk h => by have h' : k = w.heap.size := h; omega) (fun k h => by simp only [Own.blk, Option.some.injEq] at h; subst h; simp) (fun m => by
    refine ⟨C, heap_alloc_new w.drew _, ?_, fun j u hj => ?_⟩
    ·simp only [List.length_append, List.length_replicate, hbl]; omega
    ·have hjl := (List.getElem?_eq_some_iff.1 hj).1
     simp only [List.length_append, List.length_replicate, hbl] at hjl
     by_cases h1 : j < us.length
     ·rw [List.append_assoc, List.getElem?_append_left h1] at hj
      obtain ⟨q, hu1, hu2⟩ := hr j u (by rw [List.getElem?_append_left h1]; exact hj)
      refine ⟨q, ?_, RelC.mv m _ _ hu2⟩
      rw [← hC, Array.append_assoc, Array.getElem?_append_left (by simp only [List.size_toArray]; omega)]
      simp only [List.getElem?_toArray]
      rw [List.getElem?_take, if_pos h1]
      simpa using hu1
     ·by_cases h2 : j < us.length + s.size
      ·rw [List.getElem?_append_left (by simp only [List.length_append, hbl]; omega), List.getElem?_append_right (by omega)] at hj
       obtain ⟨q, hu1, hu2⟩ := bytesAV_rel (S := Sof Fr ah) (w := w) hj
       refine ⟨q, ?_, RelC.mv m _ _ hu2⟩
       rw [← hC, Array.getElem?_append_left (by simp only [Array.size_append, List.size_toArray, hol, Lib.strCells_length]; omega), Array.getElem?_append_right (by simp only [List.size_toArray, hol]; omega)]
       simp only [List.getElem?_toArray, List.size_toArray, hol]
       exact hu1
      ·rw [List.getElem?_append_right (by simp only [List.length_append, hbl]; omega), List.getElem?_replicate] at hj
       split at hj
       ·obtain rfl := Option.some.inj hj
        exact ⟨C[j]'(by omega), Array.getElem?_eq_getElem _, by simp [RelC]⟩
       ·cases hj)
  have e4 : (us ++ bytesAV s).length + (List.replicate (c' - (us.length + s.size)) AV.any).length = c' := by rw [e3, List.length_replicate]; omega
  refine ⟨.ret (.osl w.heap.size (us ++ bytesAV s).length ((us ++ bytesAV s).length + (List.replicate (c' - (us.length + s.size)) AV.any).length)), _, ⟨w.heap.size, _, rfl, rfl⟩, ⟨_, rfl, ?_⟩, k1, k2, k3⟩
  rw [e4, e3]
  exact mk_osl hk1 hk2
theorem AOp.append_t {x y : Operand} {g i e bytes : Nat} {us tl : List AV} {v : AV} {t t2 : TypeId} {c0 : Value} (hx : aeval af x = some (.osl g us.length (us.length + tl.length))) (hi : ah[i]? = some (.trow g e (us ++ tl))) (hy : aeval af y = some (.sl [v])) (hv : v.size = 1) (hok : AV.cellsOK [v] = true)
  (ht : rowTy P t = some (e, c0, bytes)) (ht2 : isSlTy P t2 = true) (hb : (us.length + 1) * bytes ≤ 140737488355328) (h63 : us.length + 1 ≤ 9223372036854775807) :
  AOp P ⟨d, .call ⟨.builtin .append, #[x, y], #[t, t2]⟩, T, ps, es, gd⟩ af ah (fun r h => ∃ g' tl', r = .ret (.osl g' (us ++ [v]).length ((us ++ [v]).length + tl'.length)) ∧ h = ah.set i (.trow g' e (us ++ [v] ++ tl'))) := .mk fun Fr a w hst hf => by
 have hsz1 : ∀ y ∈ [v], y.size = 1 := by intro y hy; rw [List.mem_singleton.1 hy]; exact hv
 obtain ⟨hux, hl1, hl2⟩ := (aeval_rel hf hx).osl
 obtain ⟨A2, c2, hu2, hl2', hm2, hrow2⟩ := srcOf_rel (aeval_rel hf hy) rfl
 obtain ⟨cs, hh, hsz, hr⟩ := hst.rel _ (List.mem_of_getElem? hi)
 have hsz' : cs.size = us.length + tl.length := by rw [hsz, List.length_append]
 cases tl with
 | cons t0 tl =>
  obtain ⟨news, hn1, hn2, hn3⟩ := run_first (P := P) (w' := w) (c := c2) (sz := 1) hrow2 hsz1 rfl
  have hn3' : news.length = 1 := by simpa using hn3
  have hrun := run_append_room (ty := T) (base := some ⟨g, 0, none⟩) (n := us.length) (cap := us.length + (t0 :: tl).length) (appRow ht) ht2 hn1 (by simp)
  obtain ⟨w', r1, k1, k2, k3⟩ := St.laid_t hst (P := P) (ys := [v]) (ds := news) (o := us.length) hi (by simp) hn3' (RelCs.cellOK _ news hn2 hok) (fun j y hj => RelCs.get1 hn2 hsz1 j y hj)
  have e1 : (us ++ t0 :: tl).take us.length ++ [v] ++ (us ++ t0 :: tl).drop (us.length + [v].length) = us ++ [v] ++ tl := by
   rw [List.take_left, ← List.drop_drop, List.drop_left]; rfl
  rw [e1] at k1 k3
  simp only [Nat.mul_one, addr_add, Nat.zero_add, r1, Result.andThen_ok] at hrun
  rw [exec_append hux hu2 hrun]
  simp only [Result.andThen_ok]
  refine ⟨.ret (.osl g (us ++ [v]).length ((us ++ [v]).length + tl.length)), _, ⟨g, tl, rfl, rfl⟩, ⟨_, rfl, ?_⟩, k1, k2, k3⟩
  have e2 : (us ++ [v]).length + tl.length = us.length + (t0 :: tl).length := by simp; omega
  have e3 : (us ++ [v]).length = us.length + [v].length := by simp
  rw [e2, e3]
  exact mk_osl (by simp) hl2
 | nil =>
  rw [List.append_nil] at hi hr
  rw [List.length_nil, Nat.add_zero] at hux hsz'
  obtain ⟨news, hn1, hn2, hn3⟩ := run_first (P := P) (w' := w.drew) (c := c2) (sz := 1) hrow2 hsz1 rfl
  have ho1 := row_read (P := P) (w' := w.drew) (n := us.length) (c := us.length) (sz := 1) (m := us.length) hh rfl (by omega)
  obtain ⟨c', z, hc1, hc2, hzs, hrun⟩ := run_append_grow (ty := T) (appRow ht) ht2 hn1 ho1 (by simp) (by simpa using hb) (by simpa [maxLen] using h63)
  rw [exec_append hux hu2 hrun]
  simp only [Result.andThen_ok]
  have hol : (cs.toList.take (us.length * 1)).length = us.length := by rw [List.length_take, show cs.toList.length = cs.size from rfl]; omega
  have hn3' : news.length = 1 := by simpa using hn3
  simp only [List.length_singleton] at hc1
  generalize hC : (cs.toList.take (us.length * 1)).toArray ++ news.toArray ++ Builtin.zeroCells z.cells (c' - (us.length + [v].length)) = C
  have hCl : C.size = c' := by
   rw [← hC]
   simp only [Array.size_append, List.size_toArray, size_zeroCells, hol, hn3', hzs, List.length_singleton]
   omega
  have hext0 : Ext (fun _ _ => False) w (w.drew.alloc (.cells C e)) :=
   ⟨rfl, rfl, rfl, by simp, fun k hk _ => Below.heap_alloc w.drew _ k hk, fun ad v hc _ => (World.cell?_alloc_lt w.drew _ ad (cell_lt hc)).trans hc⟩
  obtain ⟨k1, k2, k3⟩ := hst.update (x' := .trow w.heap.size e (us ++ [v] ++ List.replicate (c' - (us.length + 1)) .any)) hi (hext0.mono fun _ _ h => h.elim) (fun k h => .inr (by simp only [Own.blk, Option.some.injEq] at h; omega))
   (fun k o hk h => by have h' : k = w.heap.size := h; omega) (fun k h => by simp only [Own.blk, Option.some.injEq] at h; subst h; simp) (fun m => by
    refine ⟨C, heap_alloc_new w.drew _, ?_, fun j u hj => ?_⟩
    ·simp only [List.length_append, List.length_replicate, List.length_singleton]; omega
    ·have hjl := (List.getElem?_eq_some_iff.1 hj).1
     simp only [List.length_append, List.length_replicate, List.length_singleton] at hjl
     by_cases h1 : j < us.length
     ·rw [List.append_assoc, List.getElem?_append_left h1] at hj
      obtain ⟨q, hu1, hu2⟩ := hr j u hj
      refine ⟨q, ?_, RelC.mv m _ _ hu2⟩
      rw [← hC, Array.append_assoc, Array.getElem?_append_left (by simp only [List.size_toArray]; omega)]
      simp only [List.getElem?_toArray]
      rw [List.getElem?_take, if_pos (by omega)]
      simpa using hu1
     ·by_cases h2 : j < us.length + 1
      ·rw [List.getElem?_append_left (by simp only [List.length_append, List.length_singleton]; omega), List.getElem?_append_right (by omega)] at hj
       obtain ⟨q, hu1, hu2⟩ := RelCs.get1 hn2 hsz1 _ u hj
       refine ⟨q, ?_, RelC.mv m _ _ hu2⟩
       rw [← hC, Array.getElem?_append_left (by simp only [Array.size_append, List.size_toArray]; omega), Array.getElem?_append_right (by simp only [List.size_toArray]; omega)]
       simp only [List.getElem?_toArray, List.size_toArray, hol]
       exact hu1
      ·rw [List.getElem?_append_right (by simp only [List.length_append, List.length_singleton]; omega), List.getElem?_replicate] at hj
       split at hj
       ·obtain rfl := Option.some.inj hj
        exact ⟨C[j]'(by omega), Array.getElem?_eq_getElem _, by simp [RelC]⟩
       ·cases hj)
  have e3 : us.length + [v].length = (us ++ [v]).length := by simp
  have e4 : c' = (us ++ [v]).length + (List.replicate (c' - (us.length + 1)) AV.any).length := by simp; omega
  refine ⟨.ret (.osl w.heap.size (us ++ [v]).length ((us ++ [v]).length + (List.replicate (c' - (us.length + 1)) AV.any).length)), _, ⟨w.heap.size, _, rfl, rfl⟩, ⟨_, rfl, ?_⟩, k1, k2, k3⟩
  rw [← e4, ← e3]
  exact mk_osl (by simpa using hc1) hc2
theorem run_append_nil_string (w : World) (t u ty e : TypeId) (i : TypeInfo) (z : Value) (ht : P.underlying t = some (.slice e)) (hu : P.underlying u = some .string) (hi : P.info? e = some i) (hz : i.zero = some z)
  (s : ByteArray) (h0 : 0 < s.size) (h63 : ((s.size : Nat) : Int) ≤ 9223372036854775807) (hfit : Builtin.nextslicecap s.size 0 * i.bytes ≤ 281474976710656) :
  (Builtin.append_ #[t, u] ty #[.slice none 0 0, .string s]).run P w =
   .ok (.slice (some ⟨w.heap.size, 0, none⟩) s.size (grownCap w s.size 0 e))
    (w.drew.alloc (.cells ((Lib.strCells s).toArray ++ Builtin.zeroCells z.cells (grownCap w s.size 0 e - s.size)) e)) := by
 have hn : ¬ (s.size = 0) := by omega
 have h63' : ¬ ((9223372036854775807 : Int) < (s.size : Int)) := by omega
 have h48' : ¬ (281474976710656 < Builtin.nextslicecap s.size 0 * i.bytes) := by omega
 have hf := Lib.run_firstCells_string (P := P) w.drew i.size s
 have hfo : (Builtin.firstCells i.size 0 (.slice none 0 0)).run P w.drew = .ok #[] w.drew := by simp [Builtin.firstCells]
 simp [Builtin.append_, run_underlying ht, run_underlying hu, sizeOf, typeInfo, zeroValue, hi, hz, Builtin.lenOf, hn, h63', h48', Question.forced, hf, hfo, newRow, grownCap]
theorem AOp.append_str0 {x y : Operand} {e : Nat} {s : ByteArray} {t t2 : TypeId} (hx : aeval af x = some nilS) (hy : aeval af y = some (.str s)) (h0 : 0 < s.size)
  (ht : byteTy P t = some e) (ht2 : strTyB P t2 = true) (hb : s.size ≤ 140737488355328) :
  AOp P ⟨d, .call ⟨.builtin .append, #[x, y], #[t, t2]⟩, T, ps, es, gd⟩ af ah (fun r h => ∃ g' tl', r = .ret (.osl g' (bytesAV s).length ((bytesAV s).length + tl'.length)) ∧ h = .trow g' e (bytesAV s ++ tl') :: ah) := .mk fun Fr a w hst hf => by
 obtain ⟨hu, ii, z, hii, hz, hzc, hs1, hb1⟩ := byteTy_parts ht
 have hux := (aeval_rel hf hx).val
 have huy := (aeval_rel hf hy).str
 have hbl := bytesAV_length s
 have hfit := growslice_fits (bytes := 1) (need := s.size) (old := 0) (by omega) (by omega)
 have hrun := run_append_nil_string (P := P) w t t2 T e ii z hu (strTyB_eq ht2) hii hz s h0 (by omega) (by rw [hb1]; exact hfit)
 rw [exec_append hux huy hrun]
 simp only [Result.andThen_ok]
 have hk1 := grownCap_ge w s.size 0 e
 have hk2 := grownCap_le_maxLen w s.size 0 e (by unfold maxLen; omega)
 generalize grownCap w s.size 0 e = c' at *
 generalize hC : (Lib.strCells s).toArray ++ Builtin.zeroCells z.cells (c' - s.size) = C at *
 have hCl : C.size = c' := by
  rw [← hC, hzc]
  simp only [Array.size_append, List.size_toArray, Lib.strCells_length, size_zeroCells]
  simp; omega
 have hext0 : Ext (fun _ _ => False) w (w.drew.alloc (.cells C e)) :=
  ⟨rfl, rfl, rfl, by simp, fun k hk _ => Below.heap_alloc w.drew _ k hk, fun ad v hc _ => (World.cell?_alloc_lt w.drew _ ad (cell_lt hc)).trans hc⟩
 obtain ⟨k1, k2, k3⟩ := hst.cons (x := .trow w.heap.size e (bytesAV s ++ List.replicate (c' - s.size) .any)) (b := w.heap.size) rfl (Nat.le_refl _) (by simp) hext0 (fun m => by
   refine ⟨C, heap_alloc_new w.drew _, ?_, fun j u hj => ?_⟩
   ·simp only [List.length_append, List.length_replicate, hbl]; omega
   ·have hjl := (List.getElem?_eq_some_iff.1 hj).1
    simp only [List.length_append, List.length_replicate, hbl] at hjl
    by_cases h2 : j < s.size
    ·rw [List.getElem?_append_left (by omega)] at hj
     obtain ⟨q, hu1, hu2⟩ := bytesAV_rel (S := Sof Fr ah) (w := w) hj
     refine ⟨q, ?_, RelC.mv m _ _ hu2⟩
     rw [← hC, Array.getElem?_append_left (by simp only [List.size_toArray, Lib.strCells_length]; omega)]
     simp only [List.getElem?_toArray]
     exact hu1
    ·rw [List.getElem?_append_right (by omega), List.getElem?_replicate] at hj
     split at hj
     ·obtain rfl := Option.some.inj hj
      exact ⟨C[j]'(by omega), Array.getElem?_eq_getElem _, by simp [RelC]⟩
     ·cases hj)
 have e4 : (bytesAV s).length + (List.replicate (c' - s.size) AV.any).length = c' := by rw [hbl, List.length_replicate]; omega
 refine ⟨.ret (.osl w.heap.size (bytesAV s).length ((bytesAV s).length + (List.replicate (c' - s.size) AV.any).length)), _, ⟨w.heap.size, _, rfl, rfl⟩, ⟨_, rfl, ?_⟩, k1, k2, k3⟩
 rw [e4, hbl]
 exact mk_osl hk1 hk2
theorem AOp.sliceData {x : Operand} {g n c : Nat} {tys : Array TypeId} (hx : aeval af x = some (.osl g n c)) (h0 : 0 < n) : AOp P ⟨d, .call ⟨.builtin .unsafeSliceData, #[x], tys⟩, T, ps, es, gd⟩ af ah (D (.ref g 0) ah) := AOp.of_pure fun S a w hf _ => by
 obtain ⟨hux, hl1, hl2⟩ := (aeval_rel hf hx).osl
 have h := Lib.run_unsafeSliceData_row (P := P) w tys T ⟨g, 0, none⟩ n c (by omega)
 exact ⟨_, by simp only [execOp, resolve, invoke, builtin, Sem.run_bind, Sem.run_pure, Result.andThen_ok, List.map_toArray, List.map_cons, List.map_nil, hux, h], mk_ref⟩
theorem AOp.unsafeStr {x y : Operand} {g i e : Nat} {l : List UInt8} {tl : List AV} {pt it : TypeId} (hx : aeval af x = some (.ref g 0)) (hy : aeval af y = some (.int .i64 l.length)) (hi : ah[i]? = some (.trow g e (bytesAV ⟨l.toArray⟩ ++ tl))) (h0 : l ≠ []) (hp : ptrTo P pt e = true) (hc : P.cellsOf e = 1) (h63 : l.length ≤ 9223372036854775807) :
  AOp P ⟨d, .call ⟨.builtin .unsafeString, #[x, y], #[pt, it]⟩, T, ps, es, gd⟩ af ah (D (.str ⟨l.toArray⟩) (ah.set i (.tail none 0 0 1))) := .mk fun Fr a w hst hf => by
 have hux := (aeval_rel hf hx).ref
 have huy := (aeval_rel hf hy).int
 have him := List.mem_of_getElem? hi
 obtain ⟨cs, hh, hsz, hr⟩ := hst.rel _ him
 have hbl : (bytesAV ⟨l.toArray⟩).length = l.length := by rw [bytesAV_length]; simp [ByteArray.size]
 have hsh : w.shape? g = some (e, cs.size) := by simp [World.shape?, hh]
 have hcell : ∀ (j : Nat) x, l[j]? = some x → w.cell? ((⟨g, 0, none⟩ : Addr).add j) = some (.int .u8 x.toNat) := fun j x hj => by
  have hlt := (List.getElem?_eq_some_iff.1 hj).1
  obtain ⟨v, hv, hrv⟩ := hr j (.int .u8 x.toNat) (by rw [List.getElem?_append_left (by omega)]; simp [bytesAV, hj])
  simp only [RelC, List.cons.injEq, and_true] at hrv
  subst hrv
  rw [addr_add, Nat.zero_add, cell_of_row w g _ cs e (0, 0) hh]
  exact hv
 have h := Lib.run_unsafeString_row (P := P) w pt it T e (ptrTo_eq hp) hc g cs.size hsh l h0 (by rw [hsz, List.length_append]; omega) h63 hcell
 have hrun : (execOp a.eval ⟨d, .call ⟨.builtin .unsafeString, #[x, y], #[pt, it]⟩, T, ps, es, gd⟩).run P w = .ok (.value (.string ⟨l.toArray⟩)) (w.freeze ⟨g, 0, none⟩ l.length) := by
  simp only [execOp, resolve, invoke, builtin, Sem.run_bind, Sem.run_pure, Result.andThen_ok, List.map_toArray, List.map_cons, List.map_nil, hux, huy, h]
 rw [hrun]
 have hl0 : l.length ≠ 0 := by simpa using h0
 have hfr : (w.freeze ⟨g, 0, none⟩ l.length).heap.size = w.heap.size := by simp [World.freeze, hl0]
 have hrest : ∀ k, k ≠ g → (w.freeze ⟨g, 0, none⟩ l.length).heap[k]? = w.heap[k]? := fun k hk => by simp [World.freeze, hl0, Array.getElem?_modify, Ne.symm hk]
 have hext : Ext (Own.trow g e (bytesAV ⟨l.toArray⟩ ++ tl)).reg w (w.freeze ⟨g, 0, none⟩ l.length) := ⟨by simp [World.freeze, hl0], by simp [World.freeze, hl0], by simp [World.freeze, hl0], by omega, fun k hk hn => hrest k (fun e => hn 0 e), fun ad v hc hn => (World.cell?_of_block (hrest ad.block (fun e => hn e))).trans hc⟩
 obtain ⟨k1, k2, k3⟩ := hst.update (x' := .tail none 0 0 1) hi hext (fun k hk => by cases hk) (fun b o _ h => by obtain ⟨h, _⟩ := h; cases h) (fun k hk => by cases hk) (fun m => ⟨rfl, rfl⟩)
 exact ⟨_, _, ⟨rfl, rfl⟩, ⟨_, rfl, mk_str⟩, k1, k2, k3⟩
end
section
variable {C : Cx} {ds : List Deferred} {ks : List K} {af : AF} {ah : AH} {ops : Array Oper} {rest : List Oper}
theorem AL.alloc_t (zs : List AV) {dd : Nat} {t T : TypeId} {ps : String} {es : Array Edge} (ht : zeroCells C.P t = AV.flats zs) (hz : (AV.flats zs).isSome = true) (h1 : ∀ x ∈ zs, x.size = 1) (hn : Nat.blt dd C.n = true) (hk : ∀ b, AL C ds ks ops rest ((dd, .ref b 0) :: af) (.trow b t zs :: ah)) :
  AL C ds ks ops (⟨some dd, .alloc t, T, ps, es, none⟩ :: rest) af ah :=
 AL.step rfl hn (AOp.alloc_t ht hz h1) (by rintro _ _ ⟨b, e, rfl⟩; injection e with e; subst e; exact hk b) (by rintro _ _ ⟨b, e, _⟩; cases e)
theorem AL.store_tcell (i : Nat) {x y : Operand} {b bt off : Nat} {xs : List AV} {v : AV} {t T : TypeId} {ps : String} {es : Array Edge} (hx : aeval af x = some (.ref b off)) (hy : aeval af y = some v) (hi : ah[i]? = some (.trow b bt xs)) (hs : Nat.blt off xs.length = true) (hok : v.cellOK = true) (hz : Nat.beq v.size 1 = true)
  (ht : tkind C.P t = some (v.isSt, v.size)) (hk : AL C ds ks ops rest af (ah.set i (.trow b bt (xs.set off v)))) : AL C ds ks ops (⟨none, .store t x y, T, ps, es, none⟩ :: rest) af ah :=
 AL.step rfl rfl (AOp.store_tcell hx hy hi (by have h := hs; simp [Nat.blt] at h; omega) hok (nbeq_iff.1 hz) ht) (by rintro _ _ ⟨⟨u, e⟩, rfl⟩; exact hk) (by rintro _ _ ⟨⟨u, e⟩, _⟩; cases e)
end
section
variable {P : Program} {af : AF} {ah : AH} {d : Option Tmp} {T : TypeId} {ps : String} {es : Array Edge} {gd : Option (Nat × Bool)}
theorem AOp.call_slt {f : FuncId} {y x1 x2 : Operand} {tys : Array TypeId} {xs : List AV} {b : Option Nat} {n : Nat} {v : AV} {Φ : AEnd → AH → Prop} (hy : aeval af y = some (.fn f [])) (h1 : aeval af x1 = some (.slt xs b n)) (h2 : aeval af x2 = some v) (h : Tri P f [.sl xs, v] ah Φ) :
  AOp P ⟨d, .call ⟨.value y, #[x1, x2], tys⟩, T, ps, es, gd⟩ af ah Φ :=
 AOp.callV (caps := []) (args := [.sl xs, v]) hy (fun S w a hfr => by
  have k1 := Rel.as_sl (aeval_rel hfr h1)
  have k2 := aeval_rel hfr h2
  simp only [List.map_cons, List.map_nil, RelVs]
  exact ⟨_, _, rfl, k1.1, k1.2, _, _, rfl, k2.1, k2.2, rfl⟩) (by simpa using h)
theorem AOp.call_nil2 {f : FuncId} {y x1 : Operand} {tys : Array TypeId} {v : AV} {Φ : AEnd → AH → Prop} (hy : aeval af y = some (.fn f [])) (h1 : aeval af x1 = some v) (h : Tri P f [v, .val (.slice none 0 0)] ah Φ) :
  AOp P ⟨d, .call ⟨.value y, #[x1, .const (.slice none 0 0)], tys⟩, T, ps, es, gd⟩ af ah Φ :=
 AOp.callV (caps := []) (args := [v, .val (.slice none 0 0)]) hy (fun S w a hfr => by
  have k1 := aeval_rel hfr h1
  simp only [List.map_cons, List.map_nil, RelVs]
  exact ⟨_, _, rfl, k1.1, k1.2, _, _, rfl, by simp [RelC, Act.eval], by simp [Shape, Act.eval], rfl⟩) (by simpa using h)
end
section
variable {P : Program} {af : AF} {ah : AH}
variable {d : Option Tmp} {T : TypeId} {ps : String} {es : Array Edge} {gd : Option (Nat × Bool)}
theorem AOp.range_nil {x : Operand} {t e : TypeId} {kd : TypeDesc} (hx : aeval af x = some (.val (.map none))) (ht : mapTy P t = some (kd, e)) :
  AOp P ⟨d, .range t x, T, ps, es, gd⟩ af ah (fun r h => ∃ it, r = .ret (.ref it 0) ∧ h = .niter it :: ah) := .mk fun Fr a w hst hf => by
 obtain ⟨kt, hu, hkt⟩ := mapTy_parts ht
 have hv := (aeval_rel hf hx).val
 have hrun : (execOp a.eval ⟨d, .range t x, T, ps, ‹Array Edge›, gd⟩).run P w = .ok (.value (.pointer (some ⟨w.heap.size, 0, none⟩))) (w.alloc (.mapIter none 0 #[] 0)) := by
  have h1 : (newObj (.mapIter none 0 #[] 0)).run P w = .ok w.heap.size (w.alloc (.mapIter none 0 #[] 0)) := rfl
  simp only [execOp, hv, Instr.range, Sem.run_bind, run_underlying hu, Result.andThen_ok, Sem.run_pure, h1]
 rw [hrun]
 have hx' : Ext (fun _ _ => False) w (w.alloc (.mapIter none 0 #[] 0)) := Ext.alloc _ _ _
 obtain ⟨k1, k2, k3⟩ := hst.cons (x := .niter w.heap.size) (b := w.heap.size) rfl (Nat.le_refl _) (by simp) hx' (fun m => heap_alloc_new w _)
 exact ⟨_, _, ⟨_, rfl, rfl⟩, ⟨_, rfl, mk_ref⟩, k1, k2, k3⟩
theorem AOp.next_nil (j : Nat) {x : Operand} {it : Nat} (hx : aeval af x = some (.ref it 0)) (hj : ah[j]? = some (.niter it)) :
  AOp P ⟨d, .next x false, T, ps, es, gd⟩ af ah (D (.tup [.bool false]) ah) := .mk fun Fr a w hst hf => by
 have hit : w.heap[it]? = some (.mapIter none 0 #[] 0) := hst.rel _ (List.mem_of_getElem? hj)
 have hexec : (execOp a.eval ⟨d, .next x false, T, ps, ‹Array Edge›, gd⟩).run P w = .ok (.value (.tuple #[.bool false])) w := by
  have h1 : (getObj it).run P w = .ok (.mapIter none 0 #[] 0) w := by simp [getObj, Sem.run, hit]
  simp only [execOp, (aeval_rel hf hx).ref, Instr.next, Sem.run_bind, h1, Result.andThen_ok, Sem.run_pure]
 rw [hexec]
 refine ⟨.ret (.tup [.bool false]), ah, ⟨rfl, rfl⟩, ⟨_, rfl, ?_, by simp [Shape]⟩, hst, Ext.refl _ _, fun _ _ _ h => h⟩
 simp only [RelC, Value.cells]
 refine ⟨[.bool false], rfl, ?_⟩
 simp only [RelVs]
 exact ⟨_, _, rfl, by simp [RelC, Value.cells], by simp [Shape], rfl⟩
theorem AOp.append_new {x y : Operand} {b0 i e bytes n : Nat} {ys : List AV} {v : AV} {t t2 : TypeId} (hx : aeval af x = some (.slt [] (some b0) 0)) (hi : ah[i]? = some (.tail (some b0) 0 0 1)) (hy : aeval af y = some v) (hs : srcOf v = some ys) (hn : n = ys.length) (hp : 0 < n) (hys : ∀ y ∈ ys, y.size = 1)
  (ht : appTy P t = some (e, 1, bytes)) (ht2 : isSlTy P t2 = true) (hb : n * bytes ≤ 140737488355328) (h63 : n ≤ 9223372036854775807) :
  AOp P ⟨d, .call ⟨.builtin .append, #[x, y], #[t, t2]⟩, T, ps, es, gd⟩ af ah (fun r h => ∃ b' c', n ≤ c' ∧ r = .ret (.osl b' n c') ∧ h = ah.set i (.row b' ys)) := .mk fun Fr a w hst hf => by
 subst hn
 obtain ⟨hux, _, _, _⟩ := (aeval_rel hf hx).slt
 obtain ⟨A2, c2, hu2, hl2', hm2, hrow2⟩ := srcOf_rel (aeval_rel hf hy) hs
 obtain ⟨news, hn1, hn2, hn3⟩ := run_first (P := P) (w' := w.drew) (c := c2) (sz := 1) hrow2 hys rfl
 have hexec : ∀ r, (Builtin.append_ #[t, t2] T #[.slice (some ⟨b0, 0, none⟩) 0 0, .slice A2 ys.length c2]).run P w = r → (execOp a.eval ⟨d, .call ⟨.builtin .append, #[x, y], #[t, t2]⟩, T, ps, es, gd⟩).run P w = r.andThen fun v w' => .ok (.value v) w' := by
  intro r hr
  simp only [execOp, resolve, invoke, builtin, Sem.run_bind, Sem.run_pure, Result.andThen_ok, List.map_toArray, List.map_cons, List.map_nil, hux, hu2, Option.map_some, List.length_nil]
  rw [hr]
 have hold : (Builtin.firstCells 1 0 (.slice (some ⟨b0, 0, none⟩) 0 0)).run P w.drew = .ok ([] : List Value).toArray w.drew := by simp [Builtin.firstCells, loadCells, loadCellsFrom]
 obtain ⟨c', z, hc1, hc2, hzs, hrun⟩ := run_append_grow (ty := T) ht ht2 hn1 hold (by omega) (by rw [Nat.zero_add]; exact hb) (by simpa [maxLen] using h63)
 rw [Nat.zero_add] at hc1 hrun
 rw [hexec _ hrun]
 simp only [Result.andThen_ok]
 have hn3' : news.length = ys.length := by simpa using hn3
 generalize hcs : ([] : List Value).toArray ++ news.toArray ++ Builtin.zeroCells z.cells (c' - ys.length) = cs'
 have hext0 : Ext (fun _ _ => False) w (w.drew.alloc (.cells cs' e)) :=
  ⟨rfl, rfl, rfl, by simp, fun k hk _ => Below.heap_alloc w.drew _ k hk, fun ad v hc _ => (World.cell?_alloc_lt w.drew _ ad (cell_lt hc)).trans hc⟩
 obtain ⟨k1, k2, k3⟩ := hst.update (x' := .row w.heap.size ys) hi (hext0.mono fun _ _ h => h.elim) (fun k h => .inr (by simp only [Own.blk, Option.some.injEq] at h; omega))
  (fun k o hk h => by have h' : k = w.heap.size := h; omega) (fun k h => by simp only [Own.blk, Option.some.injEq] at h; subst h; simp) (fun m => by
   refine ⟨cs', e, heap_alloc_new w.drew _, fun k v hk => ?_⟩
   have hkl := (List.getElem?_eq_some_iff.1 hk).1
   obtain ⟨u, hu1, hu2⟩ := RelCs.get1 hn2 hys k v hk
   refine ⟨u, ?_, RelC.mv m _ _ hu2⟩
   rw [← hcs, Array.getElem?_append_left (by simp only [Array.size_append, List.size_toArray, List.length_nil]; omega), Array.getElem?_append_right (by simp)]
   simpa using hu1)
 exact ⟨_, _, ⟨w.heap.size, c', hc1, rfl, rfl⟩, ⟨_, rfl, mk_osl hc1 hc2⟩, k1, k2, k3⟩
end
section
variable {C : Cx} {ds : List Deferred} {ks : List K} {af : AF} {ah : AH} {ops : Array Oper} {rest : List Oper}
theorem AL.range_nil (e : Nat) (kd : TypeDesc) {dd : Nat} {x : Operand} {t T : TypeId} {ps : String} {es : Array Edge} (hx : aeval af x = some (.val (.map none))) (ht : mapTy C.P t = some (kd, e)) (hn : Nat.blt dd C.n = true)
  (hk : ∀ it, AL C ds ks ops rest ((dd, .ref it 0) :: af) (.niter it :: ah)) : AL C ds ks ops (⟨some dd, .range t x, T, ps, es, none⟩ :: rest) af ah :=
 AL.step rfl hn (AOp.range_nil hx ht) (by rintro _ _ ⟨it, e, rfl⟩; injection e with e; subst e; exact hk it) (by rintro _ _ ⟨it, e, _⟩; cases e)
theorem AL.append_new (i : Nat) {x y : Operand} {b0 e bytes n dd : Nat} {ys : List AV} {v : AV} {t t2 T : TypeId} {ps : String} {es : Array Edge} (hx : aeval af x = some (.slt [] (some b0) 0)) (hi : ah[i]? = some (.tail (some b0) 0 0 1)) (hy : aeval af y = some v) (hs : srcOf v = some ys) (hn : n = ys.length) (hp : 0 < n) (hys : ∀ y ∈ ys, y.size = 1)
  (ht : appTy C.P t = some (e, 1, bytes)) (ht2 : isSlTy C.P t2 = true) (hb : n * bytes ≤ 140737488355328) (h63 : n ≤ 9223372036854775807) (hd : Nat.blt dd C.n = true)
  (hk : ∀ b' c', n ≤ c' → AL C ds ks ops rest ((dd, .osl b' n c') :: af) (ah.set i (.row b' ys))) : AL C ds ks ops (⟨some dd, .call ⟨.builtin .append, #[x, y], #[t, t2]⟩, T, ps, es, none⟩ :: rest) af ah :=
 AL.step rfl hd (AOp.append_new hx hi hy hs hn hp hys ht ht2 hb h63) (by rintro _ _ ⟨b', c', h, e, rfl⟩; injection e with e; subst e; exact hk b' c' h) (by rintro _ _ ⟨b', c', _, e, _⟩; cases e)
theorem AW.freeze_box (i j : Nat) {b n c r : Nat} {xs : List AV} {v : AV} (v' : AV) (hi : ah[i]? = some (.row b xs)) (hj : (ah.eraseIdx i)[j]? = some (.box r v)) (hn : n = xs.length) (hs : ∀ x ∈ xs, x.size = 1)
  (hv : ∀ (S : Rg) w, (∀ cs, RelC S w (.osl b n c) cs → RelC S w (.sl xs) cs) → ∀ cs, RelC S w v cs → RelC S w v' cs) (k : AW C ds ks af ((ah.eraseIdx i).set j (.box r v'))) : AW C ds ks af ah := .mk fun a w g => by
 have g' := g.sub (List.eraseIdx_sublist ah i)
 obtain ⟨cs, tt, hh, hrc⟩ := g'.st.rel _ (List.mem_of_getElem? hj)
 have hrc' := hv _ _ (fun cs h => relc_frozen g.st hi hn hs h) _ hrc
 obtain ⟨k1, k2, k3⟩ := g'.st.update (x' := .box r v') hj (Ext.refl _ w) (fun k hk => .inl hk) (fun _ _ _ h => h)
  (fun k hk => by simp only [Own.blk, Option.some.injEq] at hk; subst hk; exact g'.st.lt _ (List.mem_of_getElem? hj) r rfl) (fun m => ⟨cs, tt, hh, RelC.mv m _ _ hrc'⟩)
 exact k.out a w (g'.next (d := none) (v := .any) (u := undef) rfl ⟨by simp [RelC, undef, Value.cells], by simp [Shape]⟩ k1 k2 k3)
end
theorem Tri.pureE {P : Program} {f : FuncId} {args : List AV} {Φ : AEnd → AH → Prop} (h : Tri P f args [] Φ) (ah : AH) : Tri P f args ah (fun x h => ∃ h1, Φ x h1 ∧ h = h1 ++ ah) := Tri.frame [] (ah := ah) h
theorem EndR.reorder {Fr R0 : Rg} {w0 w : World} {e : Ending} {Φ Ψ : AEnd → AH → Prop} (k : EndR Fr R0 w0 Φ e w) (h : ∀ x ah, Φ x ah → ∃ ah', Ψ x ah' ∧ ah.Perm ah') : EndR Fr R0 w0 Ψ e w := by
 obtain ⟨x, ah, hΦ, he, hst, hx, hn⟩ := k
 obtain ⟨ah', hΨ, hp⟩ := h x ah hΦ
 refine ⟨x, ah', hΨ, ?_, hst.perm hp, hx, fun b o hb hr => hn b o hb ((reg_perm hp).2 hr)⟩
 have hm : Mv (Sof Fr ah) (Sof Fr ah') w w := Mv.same w fun b o hs => hs.elim .inl fun h' => .inr ((reg_perm hp).2 h')
 cases x with
 | ret x => obtain ⟨v, rfl, hv⟩ := he; exact ⟨v, rfl, hv.mv hm⟩
 | pan x => obtain ⟨v, rfl, hv⟩ := he; exact ⟨v, rfl, hv.mv hm⟩
theorem Tri.around {P : Program} {f : FuncId} {args : List AV} {b : AH} {Φ : AEnd → AH → Prop} (h : Tri P f args b Φ) (a c : AH) : Tri P f args (a ++ (b ++ c)) (fun x h => ∃ h1, Φ x h1 ∧ h = a ++ (h1 ++ c)) :=
 ⟨h.1, fun Fr w vs h1 h2 => (((h.behind c).front a).2 Fr w vs h1 h2).mono fun e w' he => he.reorder fun x ah ⟨u, ⟨v, hv, e1⟩, e2⟩ => ⟨a ++ (v ++ c), ⟨v, hv, rfl⟩, by rw [e2, e1]; exact List.perm_append_comm⟩⟩
theorem Tri.aroundD {P : Program} {f : FuncId} {args : List AV} {b b' : AH} {v : AV} (h : Tri P f args b (D v b')) (a c : AH) : Tri P f args (a ++ (b ++ c)) (D v (a ++ (b' ++ c))) :=
 (h.around a c).mono fun x h ⟨h1, ⟨e1, e2⟩, e3⟩ => ⟨e1, by rw [e3, e2]⟩
section
variable {C : Cx} {ds : List Deferred} {ks : List K} {af : AF} {ah : AH} {ops : Array Oper} {rest : List Oper}
theorem AL.callQ_nil2 {d : Option Tmp} {T : TypeId} {ps : String} {es : Array Edge} {f : FuncId} {y x1 : Operand} {tys : Array TypeId} {v : AV} {Φ : AEnd → AH → Prop} (hy : aeval af y = some (.fn f [])) (h1 : aeval af x1 = some v)
  (h : Tri C.P f [v, .val (.slice none 0 0)] ah Φ) (hd : okDst d C.n = true) (hk : ∀ v ah', Φ (.ret v) ah' → AL C ds ks ops rest (put af d v) ah') (hp : ∀ v ah', Φ (.pan v) ah' → APan C ds v ah') :
  AL C ds ks ops (⟨d, .call ⟨.value y, #[x1, .const (.slice none 0 0)], tys⟩, T, ps, es, none⟩ :: rest) af ah := AL.step rfl hd (AOp.call_nil2 hy h1 h) hk hp
end
def bfA (o : Option Nat) : Option Addr := o.map fun b => ⟨b, 0, none⟩
def bfV (o : Option Nat) (n c : Nat) : AV := .val (.slice (bfA o) n c)
def bfO : Option Nat → List AV → Own
 | none, _ => .tail none 0 0 1
 | some b, xs => .row b xs
section
variable {P : Program} {af : AF} {ah : AH}
variable {d : Option Tmp} {T : TypeId} {ps : String} {es : Array Edge} {gd : Option (Nat × Bool)}
def SrcC (P : Program) (af : AF) (ah : AH) (y : Operand) (m sz : Nat) (ys : List AV) : Prop := ∀ (Fr : Rg) (w : World) (a : Act), St Fr ah w → AFRel (Sof Fr ah) w af a → ∃ (A2 : Option Addr) (c2 : Nat), a.eval y = .slice A2 m c2 ∧
 ∀ w' : World, w'.heap = w.heap → ∃ news : List Value, (Builtin.firstCells sz m (.slice A2 m c2)).run P w' = .ok news.toArray w' ∧ RelCs (Sof Fr ah) w ys news ∧ news.length = m * sz
theorem SrcC.ro {y : Operand} {v : AV} {ys : List AV} (hy : aeval af y = some v) (hs : srcOf v = some ys) (h1 : ∀ y ∈ ys, y.size = 1) : SrcC P af ah y ys.length 1 ys := fun Fr w a hst hf => by
 obtain ⟨A2, c2, hu2, hl2', hm2, hrow2⟩ := srcOf_rel (aeval_rel hf hy) hs
 exact ⟨A2, c2, hu2, fun w' hw => by
  obtain ⟨news, hn1, hn2, hn3⟩ := run_first (P := P) (w' := w') (c := c2) (sz := 1) hrow2 h1 hw
  exact ⟨news, hn1, hn2, hn3⟩⟩
theorem SrcC.one {y : Operand} {fs : List AV} (hy : aeval af y = some (.sl [.st fs])) (h1 : ∀ y ∈ fs, y.size = 1) : SrcC P af ah y 1 fs.length fs := fun Fr w a hst hf => by
 obtain ⟨A2, c2, hu2, hl2', hm2, hrow2⟩ := srcOf_rel (aeval_rel hf hy) rfl
 exact ⟨A2, c2, hu2, fun w' hw => by
  obtain ⟨news, hn1, hn2, hn3⟩ := src_one (P := P) (w' := w') (c := c2) hrow2 h1 rfl hw
  exact ⟨news, hn1, hn2, by rw [hn3, Nat.one_mul]⟩⟩
theorem SrcC.own (j : Nat) {y : Operand} {b m c : Nat} {ys rest : List AV} (hy : aeval af y = some (.osl b m c)) (hj : ah[j]? = some (.row b (ys ++ rest))) (hm : ys.length = m) : SrcC P af ah y m 1 ys := fun Fr w a hst hf => by
 obtain ⟨hu2, hl1, hl2⟩ := (aeval_rel hf hy).osl
 obtain ⟨cs, tt, hh, hr⟩ := hst.rel _ (List.mem_of_getElem? hj)
 have hsz0 := row_size (b := b) hr
 rw [List.length_append] at hsz0
 refine ⟨_, c, hu2, fun w' hw => ⟨cs.toList.take (m * 1), row_read hh hw (by omega), ?_, by rw [List.length_take, show cs.toList.length = cs.size from rfl]; omega⟩⟩
 have key : ∀ (l : List AV) (o : Nat), (∀ (i : Nat) x, l[i]? = some x → ∃ v, cs[o + i]? = some v ∧ RelC (Sof Fr ah) w x [v]) → o + l.length ≤ cs.size → RelCs (Sof Fr ah) w l ((cs.toList.drop o).take l.length) := by
  intro l
  induction l with
  | nil => intro o _ _; simp [RelCs]
  | cons x l ih =>
   intro o h hle
   rw [List.length_cons] at hle
   obtain ⟨v, hv, hrv⟩ := h 0 x rfl
   rw [RelCs]
   refine ⟨[v], (cs.toList.drop (o + 1)).take l.length, ?_, hrv, ih (o + 1) (fun i y hi => ?_) (by omega)⟩
   ·have : cs.toList.drop o = v :: cs.toList.drop (o + 1) := by
     rw [List.drop_eq_getElem_cons (by rw [Array.length_toList]; omega)]
     congr 1
     rw [Nat.add_zero] at hv
     have := (Array.getElem?_eq_some_iff.1 hv).2
     simpa using this
    rw [this]; rfl
   ·obtain ⟨v, hv, hrv⟩ := h (i + 1) y (by simpa using hi)
    exact ⟨v, by rw [show o + 1 + i = o + (i + 1) by omega]; exact hv, hrv⟩
 have := key ys 0 (fun i x hi => by
  obtain ⟨v, hv, hrv⟩ := hr i x (by rw [List.getElem?_append_left (List.getElem?_eq_some_iff.1 hi).1]; exact hi)
  exact ⟨v, by rw [Nat.zero_add]; exact hv, hrv⟩) (by omega)
 rw [List.drop_zero, hm] at this
 rw [Nat.mul_one]; exact this
theorem mk_bf {S : Rg} {w : World} {o : Option Nat} {n c : Nat} : Rel S w (bfV o n c) (.slice (bfA o) n c) := ⟨by simp [bfV, RelC, Value.cells], by simp [bfV, Shape]⟩
theorem AOp.append_bf (i sz : Nat) {x y : Operand} {o : Option Nat} {n c m e bytes : Nat} {us tl ys : List AV} {t t2 : TypeId} (hx : aeval af x = some (bfV o n c)) (hi : ah[i]? = some (bfO o (us ++ tl))) (hu : us.length = n * sz) (htl : us.length + tl.length = c * sz) (hnil : o = none → n = 0 ∧ c = 0)
  (hsrc : SrcC P af ah y m sz ys) (hm : ys.length = m * sz) (hys : ∀ y ∈ ys, y.size = 1) (hok : AV.cellsOK ys = true) (hnc : n ≤ c)
  (ht : appTy P t = some (e, sz, bytes)) (ht2 : isSlTy P t2 = true) (hb : (n + m) * bytes ≤ 140737488355328) (h63 : n + m ≤ 9223372036854775807) :
  AOp P ⟨d, .call ⟨.builtin .append, #[x, y], #[t, t2]⟩, T, ps, es, gd⟩ af ah (fun r h => ∃ o' c' tl', r = .ret (bfV o' (n + m) c') ∧ h = ah.set i (bfO o' (us ++ ys ++ tl')) ∧ us.length + ys.length + tl'.length = c' * sz ∧ (o' = none → n + m = 0 ∧ c' = 0) ∧ n + m ≤ c') := .mk fun Fr a w hst hf => by
 obtain ⟨A2, c2, hu2, hnews⟩ := hsrc Fr w a hst hf
 have hpos : 0 < sz := by
  obtain ⟨_, _, _, _, _, _, _, _, hp⟩ := appTy_parts ht
  omega
 by_cases hroom : n + m ≤ c
 ·cases o with
  | none =>
   obtain ⟨rfl, rfl⟩ := hnil rfl
   have hm0 : m = 0 := by omega
   subst hm0
   have hux : a.eval x = .slice none 0 0 := (aeval_rel hf hx).val
   obtain ⟨news, hn1, hn2, hn3⟩ := hnews w rfl
   have hrun := run_append_room (ty := T) (base := none) (n := 0) (cap := 0) ht ht2 hn1 (by omega)
   simp only at hrun
   rw [exec_append hux hu2 hrun]
   have hys0 : ys = [] := List.eq_nil_of_length_eq_zero (by omega)
   have hus0 : us = [] := List.eq_nil_of_length_eq_zero (by omega)
   have htl0 : tl = [] := List.eq_nil_of_length_eq_zero (by omega)
   subst hys0 hus0 htl0
   have hset : ah.set i (bfO none ([] ++ [] ++ [])) = ah := by
    apply List.ext_getElem?
    intro k
    rw [List.getElem?_set]
    split
    ·subst_vars
     split
     ·exact hi.symm
     ·rw [List.getElem?_eq_none (by omega)]
    ·rfl
   exact ⟨.ret (bfV none 0 0), ah, ⟨none, 0, [], rfl, hset.symm, by simp, fun _ => ⟨rfl, rfl⟩, by omega⟩, ⟨_, rfl, mk_bf⟩, hst, Ext.refl _ _, fun _ _ _ h => h⟩
  | some b =>
   have hux : a.eval x = .slice (some ⟨b, 0, none⟩) n c := (aeval_rel hf hx).val
   obtain ⟨news, hn1, hn2, hn3⟩ := hnews w rfl
   have hi' : ah[i]? = some (.row b (us ++ tl)) := hi
   have hle : n * sz + m * sz ≤ c * sz := by rw [← Nat.add_mul]; exact Nat.mul_le_mul_right _ hroom
   obtain ⟨w', r1, k1, k2, k3⟩ := hst.laid (P := P) (ys := ys) (ds := news) (o := n * sz) hi' (by rw [List.length_append]; omega) (by rw [hn3, hm]) (RelCs.cellOK _ news hn2 hok) (fun j y hj => RelCs.get1 hn2 hys j y hj)
   have hrun := run_append_room (ty := T) (base := some ⟨b, 0, none⟩) (n := n) (cap := c) ht ht2 hn1 hroom
   simp only [addr_add, Nat.zero_add, r1, Result.andThen_ok] at hrun
   rw [exec_append hux hu2 hrun]
   have e1 : (us ++ tl).take (n * sz) ++ ys ++ (us ++ tl).drop (n * sz + ys.length) = us ++ ys ++ tl.drop ys.length := by
    rw [← hu, List.take_left, ← List.drop_drop, List.drop_left]
   rw [e1] at k1 k3
   refine ⟨_, _, ⟨some b, c, tl.drop ys.length, rfl, rfl, ?_, (fun h => by cases h), hroom⟩, ⟨_, rfl, mk_bf⟩, k1, k2, k3⟩
   rw [List.length_drop]; omega
 ·have hhp : ∃ olds : List Value, olds.length = n * sz ∧ (∃ base, a.eval x = .slice base n c ∧ (Builtin.firstCells sz n (.slice base n c)).run P w.drew = .ok olds.toArray w.drew) ∧ ∀ (j : Nat) u, us[j]? = some u → ∃ v, olds[j]? = some v ∧ RelC (Sof Fr ah) w u [v] := by
   cases o with
   | none =>
    obtain ⟨rfl, rfl⟩ := hnil rfl
    have hus0 : us = [] := List.eq_nil_of_length_eq_zero (by omega)
    subst hus0
    exact ⟨[], by simp, ⟨none, (aeval_rel hf hx).val, by simp [Builtin.firstCells]⟩, fun j u hj => by simp at hj⟩
   | some b =>
    have hux : a.eval x = .slice (some ⟨b, 0, none⟩) n c := (aeval_rel hf hx).val
    obtain ⟨cs, tt, hh, hr⟩ := hst.rel _ (List.mem_of_getElem? (show ah[i]? = some (.row b (us ++ tl)) from hi))
    have hsz0 := row_size (b := b) hr
    rw [List.length_append] at hsz0
    refine ⟨cs.toList.take (n * sz), by rw [List.length_take, show cs.toList.length = cs.size from rfl]; omega, ⟨_, hux, row_read hh rfl (by omega)⟩, fun j u hj => ?_⟩
    have hjl := (List.getElem?_eq_some_iff.1 hj).1
    obtain ⟨v, hv, hrv⟩ := hr j u (by rw [List.getElem?_append_left hjl]; exact hj)
    exact ⟨v, by rw [List.getElem?_take, if_pos (by omega)]; simpa using hv, hrv⟩
  obtain ⟨olds, hol, ⟨base, hux, ho1⟩, hor⟩ := hhp
  obtain ⟨news, hn1, hn2, hn3⟩ := hnews w.drew rfl
  obtain ⟨c', z, hc1, hc2, hzs, hrun⟩ := run_append_grow (ty := T) ht ht2 hn1 ho1 (by omega) hb (by simpa [maxLen] using h63)
  rw [exec_append hux hu2 hrun]
  simp only [Result.andThen_ok]
  generalize hcs : olds.toArray ++ news.toArray ++ Builtin.zeroCells z.cells (c' - (n + m)) = cs'
  have hmul : c' * sz = n * sz + m * sz + (c' - (n + m)) * sz := by rw [← Nat.add_mul, ← Nat.add_mul]; congr 1; omega
  have hcsz' : cs'.size = c' * sz := by
   rw [← hcs]
   simp only [Array.size_append, List.size_toArray, size_zeroCells, hol, hn3, hzs]
   rw [hmul]
  have hext0 : Ext (fun _ _ => False) w (w.drew.alloc (.cells cs' e)) :=
   ⟨rfl, rfl, rfl, by simp, fun k hk _ => Below.heap_alloc w.drew _ k hk, fun ad v hc _ => (World.cell?_alloc_lt w.drew _ ad (cell_lt hc)).trans hc⟩
  obtain ⟨k1, k2, k3⟩ := hst.update (x' := .row w.heap.size (us ++ ys ++ List.replicate ((c' - (n + m)) * sz) .any)) hi (hext0.mono fun _ _ h => h.elim) (fun k h => .inr (by simp only [Own.blk, Option.some.injEq] at h; omega))
   (fun k o hk h => by have h' : k = w.heap.size := h; omega) (fun k h => by simp only [Own.blk, Option.some.injEq] at h; subst h; simp) (fun mm => by
    refine ⟨cs', e, heap_alloc_new w.drew _, fun j u hj => ?_⟩
    have hjl := (List.getElem?_eq_some_iff.1 hj).1
    simp only [List.length_append, List.length_replicate] at hjl
    by_cases h1 : j < us.length
    ·rw [List.append_assoc, List.getElem?_append_left h1] at hj
     obtain ⟨q, hu1, hu2⟩ := hor j u hj
     refine ⟨q, ?_, RelC.mv mm _ _ hu2⟩
     rw [← hcs, Array.append_assoc, Array.getElem?_append_left (by simp only [List.size_toArray]; omega)]
     simpa using hu1
    ·by_cases h2 : j < us.length + ys.length
     ·rw [List.getElem?_append_left (by simp only [List.length_append]; omega), List.getElem?_append_right (by omega)] at hj
      obtain ⟨q, hu1, hu2⟩ := RelCs.get1 hn2 hys _ u hj
      refine ⟨q, ?_, RelC.mv mm _ _ hu2⟩
      rw [← hcs, Array.getElem?_append_left (by simp only [Array.size_append, List.size_toArray]; omega), Array.getElem?_append_right (by simp only [List.size_toArray]; omega)]
      simp only [List.getElem?_toArray, List.size_toArray, hol, ← hu]
      exact hu1
     ·rw [List.getElem?_append_right (by simp only [List.length_append]; omega), List.getElem?_replicate] at hj
      split at hj
      ·obtain rfl := Option.some.inj hj
       exact ⟨cs'[j]'(by omega), Array.getElem?_eq_getElem _, by simp [RelC]⟩
      ·cases hj)
  refine ⟨_, _, ⟨some w.heap.size, c', List.replicate ((c' - (n + m)) * sz) .any, rfl, rfl, by rw [List.length_replicate, hu, hm, hmul], (fun h => by cases h), hc1⟩, ⟨_, rfl, mk_bf⟩, k1, k2, k3⟩
theorem AOp.cut_bf {x : Operand} {hi : Option Operand} {t sz n c k : Nat} {o : Option Nat} (ht : esize P t = some sz) (hx : aeval af x = some (bfV o n c)) (eh : bndIs af hi n k) (hk : k ≤ c) : AOp P ⟨d, .slice t x none hi none, T, ps, es, gd⟩ af ah (D (bfV o k c) ah) :=
 AOp.of_pure fun S a w hf _ => by
  have hu : a.eval x = .slice (bfA o) n c := (aeval_rel hf hx).val
  unfold esize at ht
  split at ht
  ·rename_i e hut
   cases hi' : P.info? e with
   | none => simp [hi'] at ht
   | some i =>
    have hb := run_bounds (P := P) (w := w) (c := c) (sl := true) hf (bndIs.none (af := af) (n := 0)) eh (Nat.zero_le _) hk
    refine ⟨.slice (bfA o) k c, ?_, mk_bf⟩
    simp only [Option.map_none] at hb
    cases o with
    | none => simp [execOp, Instr.sliceAt, run_underlying hut, Instr.slice, hu, hb, sizeOf, typeInfo, hi', bfA]
    | some b => simp [execOp, Instr.sliceAt, run_underlying hut, Instr.slice, hu, hb, sizeOf, typeInfo, hi', addr_add, bfA]
  ·cases ht
theorem AOp.len_val {x : Operand} {A : Option Addr} {n c : Nat} {t : TypeId} (ht : lenTy P t = some false) (hx : aeval af x = some (.val (.slice A n c))) : AOp P ⟨d, .call ⟨.builtin .len, #[x], #[t]⟩, T, ps, es, gd⟩ af ah (D (.int .i64 n) ah) :=
 AOp.of_pure fun S a w hfr _ => by
  have hu := (aeval_rel hfr hx).val
  obtain ⟨e, ht⟩ := lenTy_sl ht
  exact ⟨.int .i64 n, by simp [execOp, resolve, invoke, builtin, hu, Builtin.len_, Builtin.lenOf, goInt, run_underlying ht], mk_int⟩
end
section
variable {C : Cx} {ds : List Deferred} {ks : List K} {af : AF}
theorem AW.exploreA {ops : Array Oper} {id : Nat} {ae aq : AH} (E : List Nat) (hm : C.P.follows .mixedOrders = true) (hd : drawOK ops = true) (hn : ops.toList.all (fun o => okDst o.dst C.n) = true) (hqo : quietOK ops E = true) (hE : okE E ops.size = true)
  (h : AQE C.P ops aq (ae ++ aq) E 0 ops.toList af (fun vs => AX C ds ks ops af aq E.length E vs ae)) : AW C ds (.c (.region id ops true) :: ks) af (ae ++ aq) := by
 obtain ⟨vs, h1, h2, h3⟩ := h.out
 refine AW.explore_core hm hd hn hqo (okE_iff hE).1 (okE_iff hE).2 (vs0 := vs) (by simpa using h1) (fun x o v hx ho hv => ?_) h2
 have hxs : x < ops.size := (Array.getElem?_eq_some_iff.1 ho).1
 have := h3 x o v (by simpa using ho) hv
 rw [Nat.zero_add, hx, ← frameOf_down x (by omega) (by rw [h1, Array.length_toList]; omega)] at this
 exact this.resolve_left (by simp)
end
section
variable {P : Program} {af : AF} {ah : AH}
variable {d : Option Tmp} {T : TypeId} {ps : String} {es : Array Edge} {gd : Option (Nat × Bool)}
end
section
variable {C : Cx} {ds : List Deferred} {ks : List K} {ops : Array Oper} {af : AF} {aq ae : AH} {n : Nat} {rem : List Nat} {vs : List AV}
end
section
variable {C : Cx} {ds : List Deferred} {ks : List K} {af : AF} {ah : AH} {ops : Array Oper} {rest : List Oper}
end
def earlyN (ops : Array Oper) (E N : List Nat) (x : Nat) : Bool := E.all fun e => memN e N || clB ops ops.size e x
def AX2 (N : List Nat) (C : Cx) (ds : List Deferred) (ks : List K) (ops : Array Oper) (af : AF) (aq : AH) : Nat → List Nat → List AV → AH → Prop
 | 0, _, vs, ae => AW C ds ks (frameOf ops vs af (down ops.size)) (ae ++ aq)
 | n + 1, rem, vs, ae => ∀ i ∈ rem, (∀ j ∈ rem, clB ops ops.size i j = false) → ∃ o, ops[i]? = some o ∧
   ((gdo ops (keep (oslots ops o) (frameOf ops vs af (down i))) o = some false ∧ AX2 N C ds ks ops af aq n (rem.erase i) (vs.set i (.tup [])) ae) ∨
    (gdo ops (keep (oslots ops o) (frameOf ops vs af (down i))) o = some true ∧ ∃ Φ : AEnd → AH → Prop, AOp C.P o (keep (oslots ops o) (frameOf ops vs af (down i))) ae Φ ∧
     (∀ v h, Φ (.ret v) h → AX2 N C ds ks ops af aq n (rem.erase i) (vs.set i v) h ∧ (memN i N = true → ∃ A, h = A ++ ae)) ∧ (∀ v h, Φ (.pan v) h → APan C ds v (h ++ aq))))
section
variable {C : Cx} {ds : List Deferred} {ks : List K} {af : AF}
theorem AW.explore2_core {ops : Array Oper} {id : Nat} {E N : List Nat} {vs0 : List AV} {ae0 aq : AH} (hm : C.P.follows .mixedOrders = true) (hd : drawOK ops = true) (hn : ops.toList.all (fun o => okDst o.dst C.n) = true) (hqo : quietOK ops E = true) (hEn : E.Nodup) (hEl : ∀ e ∈ E, e < ops.size)
  (hvl : vs0.length = ops.size)
  (hq : ∀ x o v, memN x E = false → ops[x]? = some o → vs0[x]? = some v → QStep C.P ops aq o (frameOf ops vs0 af (down x)) v ∨ (earlyN ops E N x = true ∧ QStep C.P ops (ae0 ++ aq) o (frameOf ops vs0 af (down x)) v))
  (hx : AX2 N C ds ks ops af aq E.length E vs0 ae0) : AW C ds (.c (.region id ops true) :: ks) af (ae0 ++ aq) := .mk fun a w g => by
 simp only [hnd]
 refine wpIn_region_any hm ?_
 have hgt : ∀ (i : Nat) (o : Oper), ops[i]? = some o → ∀ t, t ∈ (match o.guard with | some (g, _) => (dstOf ops g).toList | none => []) → Nat.blt t C.n = true := by
  intro i o ho t ht
  cases hg : o.guard with
  | none => simp [hg] at ht
  | some p =>
   simp only [hg, Option.mem_toList, Option.mem_def] at ht
   unfold dstOf at ht
   cases hp : ops[p.1]? with
   | none => simp [hp] at ht
   | some q =>
    simp only [hp, Option.bind_some] at ht
    have := okDst_of hn hp
    simpa [okDst, ht] using this
 have key : ∀ (fuel : Nat) (listed : Array Bool) (l : List Nat) (a : Act) (w : World) (vs : List AV) (rem : List Nat) (ae : AH), Marks ops.size listed l → Closed ops l → fuel + l.length = ops.size → vs.length = ops.size →
   rem.Nodup → (∀ x, x ∈ rem ↔ (x ∈ E ∧ x ∉ l)) → AX2 N C ds ks ops af aq rem.length rem vs ae → (∀ x, memN x E = false → vs.getD x .any = vs0.getD x .any) → ((∃ e ∈ E, memN e N = false ∧ e ∈ l) ∨ ∃ A, ae = A ++ ae0) →
   Good C ds (frameOf ops vs af l) (ae ++ aq) a w → wpAnyIn (fz C.ro) 0 C.P .any ops (hnd C.P C.ro C.R ks) fuel listed a w := by
  intro fuel
  induction fuel with
  | zero =>
   intro listed l a w vs rem ae hM hc hf hvl' hrn hr hax hvq hea g
   have hnd : l.Nodup := by
    clear hf g hM hr hea
    induction hc with
    | nil => simp
    | cons _ hx _ _ ih => exact List.nodup_cons.2 ⟨hx, ih⟩
   have hready : Region.ready .any ops listed = [] := by
    rw [List.eq_nil_iff_forall_not_mem]
    intro i hi
    obtain ⟨h1, h2, _⟩ := hM.ready rfl hi
    have : (i :: l).length ≤ ops.size := by
     have hs : (i :: l) ⊆ List.range ops.size := fun j hj => List.mem_range.2 (by rcases List.mem_cons.1 hj with rfl | hj; exact h1; exact hM.2.2 j hj)
     have := nodup_len (List.nodup_cons.2 ⟨h2, hnd⟩) hs
     simpa using this
    simp at this
    omega
   have hall := hM.full rfl hd hready
   refine ⟨hready, ?_⟩
   have hrem : rem = [] := by
    rw [List.eq_nil_iff_forall_not_mem]
    intro x hx
    obtain ⟨h1, h2⟩ := (hr x).1 hx
    exact h2 (hall x (hEl x h1))
   subst hrem
   refine AW.out (show AW C ds ks (frameOf ops vs af (down ops.size)) (ae ++ aq) from hax) a w { g with fr := fun s v hs => g.fr s v (by
    rw [get_frameOf, wr_all hd hc ops.size hall (fun i hi => hM.2.2 i hi), ← get_frameOf]; exact hs) }
  | succ fuel ih =>
   intro listed l a w vs rem ae hM hc hf hvl' hrn hr hax hvq hea g
   refine ⟨fun hready => ?_, fun i hi => ?_⟩
   ·exfalso
    have hall := hM.full rfl hd hready
    have hs : List.range ops.size ⊆ l := fun i hi => hall i (List.mem_range.1 hi)
    have := nodup_len List.nodup_range hs
    simp at this
    omega
   ·obtain ⟨h1, h2, o, ho, he⟩ := hM.ready rfl hi
    have hc' : Closed ops (i :: l) := .cons hc h2 ho he
    have hdst : dstOf ops i = o.dst := by simp [dstOf, ho]
    by_cases hiE : memN i E = true
    ·have hiE' : i ∈ E := memN_iff.1 hiE
     have hir : i ∈ rem := (hr i).2 ⟨hiE', h2⟩
     obtain ⟨n, hlen⟩ : ∃ n, rem.length = n + 1 := ⟨rem.length - 1, by have := List.length_pos_of_mem hir; omega⟩
     rw [hlen] at hax
     have hfree : ∀ j ∈ rem, clB ops ops.size i j = false := fun j hj => by
      rw [Bool.eq_false_iff]
      intro hb
      exact ((hr j).1 hj).2 (Closed.before _ hc' hb)
     obtain ⟨o', ho', hstep⟩ := hax i hir hfree
     rw [ho] at ho'
     obtain rfl := Option.some.inj ho'
     have hkk : keep (oslots ops o) (frameOf ops vs af (down i)) = keep (oslots ops o) (frameOf ops vs af l) := keep_congr fun s hs => by
      rw [get_frameOf, get_frameOf, wr_text hd hc' ho hs]
     have hrn' : (rem.erase i).Nodup := hrn.erase i
     have hr' : ∀ x, x ∈ rem.erase i ↔ (x ∈ E ∧ x ∉ i :: l) := fun x => by
      rw [hrn.mem_erase_iff, hr x, List.mem_cons]
      constructor
      ·rintro ⟨h1, h2, h3⟩; exact ⟨h2, fun h => h.elim h1 h3⟩
      ·rintro ⟨h1, h2⟩; exact ⟨fun h => h2 (.inl h), h1, fun h => h2 (.inr h)⟩
     have hlen' : (rem.erase i).length = n := by rw [List.length_erase_of_mem hir]; omega
     have hnew : ∀ h : AH, (memN i N = true → ∃ A, h = A ++ ae) → ((∃ e ∈ E, memN e N = false ∧ e ∈ i :: l) ∨ ∃ A, h = A ++ ae0) := fun h hmk => by
      cases hN : memN i N with
      | false => exact .inl ⟨i, hiE', hN, by simp⟩
      | true =>
       rcases hea with ⟨e, k1, k2, k3⟩ | ⟨A, rfl⟩
       ·exact .inl ⟨e, k1, k2, List.mem_cons_of_mem _ k3⟩
       ·obtain ⟨B, rfl⟩ := hmk hN
        exact .inr ⟨B ++ A, by rw [List.append_assoc]⟩
     have hfin : ∀ (v : AV) (h : AH) (a' : Act) (w' : World), (memN i N = true → ∃ A, h = A ++ ae) → AX2 N C ds ks ops af aq n (rem.erase i) (vs.set i v) h → Good C ds (put (frameOf ops vs af l) o.dst v) (h ++ aq) a' w' →
       wpAnyIn (fz C.ro) 0 C.P .any ops (hnd C.P C.ro C.R ks) fuel (listed.setIfInBounds i true) a' w' := by
      intro v h a' w' hmk hax' g'
      refine ih _ (i :: l) a' w' (vs.set i v) (rem.erase i) h (hM.set h1) hc' (by simp; omega) (by simpa using hvl') hrn' hr' (by rw [hlen']; exact hax') (fun x hx => ?_) (hnew h hmk) ?_
      ·have : i ≠ x := fun e => by subst e; rw [hiE] at hx; cases hx
       rw [getD_set_ne this]; exact hvq x hx
      ·simp only [frameOf, hdst]
       have e1 : (vs.set i v).getD i .any = v := by
        rw [List.getD_eq_getElem?_getD, List.getElem?_set_self (by omega)]; rfl
       rw [e1, frameOf_congr (us := vs) fun x hx => getD_set_ne (fun e => h2 (by rw [e]; exact hx))]
       exact g'
     rcases hstep with ⟨hg, hax'⟩ | ⟨hg, Φ, hop, hret, hpan⟩
     ·refine quiet_one (v := .tup []) (K := wpAnyIn (fz C.ro) 0 C.P .any ops (hnd C.P C.ro C.R ks) fuel (listed.setIfInBounds i true)) g ho (okDst_of hn ho) (hgt i o ho) hkk (.inr ⟨hg, rfl⟩) fun a' w' g' => ?_
      refine ih _ (i :: l) a' w' (vs.set i (.tup [])) (rem.erase i) ae (hM.set h1) hc' (by simp; omega) (by simpa using hvl') hrn' hr' ?_ (fun x hx => ?_) (hea.imp (fun ⟨e, h1, h2, h3⟩ => ⟨e, h1, h2, List.mem_cons_of_mem _ h3⟩) (fun h => h)) ?_
      ·rw [hlen']; exact hax'
      ·have : i ≠ x := fun e => by subst e; rw [hiE] at hx; cases hx
       rw [getD_set_ne this]; exact hvq x hx
      ·simp only [frameOf, hdst]
       have e1 : (vs.set i (.tup [])).getD i .any = .tup [] := by
        rw [List.getD_eq_getElem?_getD, List.getElem?_set_self (by omega)]; rfl
       rw [e1, frameOf_congr (us := vs) fun x hx => getD_set_ne (fun e => h2 (by rw [e]; exact hx))]
       exact g'
     ·refine heavy_one g ho (okDst_of hn ho) (hgt i o ho) hkk ⟨hg, hop.frameL aq⟩ (fun v h a' w' ⟨h', hΦ, e⟩ g' => ?_) (fun v h ⟨h', hΦ, e⟩ => ?_)
      ·subst e; exact hfin v h' a' w' (hret v h' hΦ).2 (hret v h' hΦ).1 g'
      ·subst e; exact hpan v h' hΦ
    ·have hiE : memN i E = false := by simpa using hiE
     have hvi : vs0[i]? = some (vs0.getD i .any) := by
      rw [List.getElem?_eq_getElem (by omega)]; simp [List.getD_eq_getElem?_getD, List.getElem?_eq_getElem (show i < vs0.length by omega)]
     have hkk : keep (oslots ops o) (frameOf ops vs0 af (down i)) = keep (oslots ops o) (frameOf ops vs af l) := keep_congr fun s hs => by
      rw [get_frameOf, get_frameOf, ← wr_text hd hc' ho hs]
      cases hw : wr ops s l with
      | none => rfl
      | some y =>
       have hyq : memN y E = false := by
        rw [wr_text hd hc' ho hs] at hw
        simp only [quietOK, List.all_eq_true, List.mem_range, Bool.or_eq_true] at hqo
        have := hqo i h1
        simp only [hiE, ho, Bool.false_eq_true, false_or, List.all_eq_true] at this
        have := this s hs
        rw [hw] at this
        simpa using this
       simp only [hvq y hyq]
     have hqs : QStep C.P ops (ae ++ aq) o (frameOf ops vs0 af (down i)) (vs0.getD i .any) := by
      rcases hq i o _ hiE ho hvi with h | ⟨h, h'⟩
      ·exact h.frame ae
      ·rcases hea with ⟨e, heE, heN, hel⟩ | ⟨A, rfl⟩
       ·exfalso
        simp only [earlyN, List.all_eq_true, Bool.or_eq_true] at h
        obtain ⟨l1, l2, rfl, hcl⟩ := hc.split hel
        exact h2 (List.mem_append_right _ (List.mem_cons_of_mem _ (Closed.before _ hcl ((h e heE).resolve_left (by rw [heN]; simp)))))
       ·rw [List.append_assoc]; exact h'.frame A
     refine quiet_one (K := wpAnyIn (fz C.ro) 0 C.P .any ops (hnd C.P C.ro C.R ks) fuel (listed.setIfInBounds i true)) g ho (okDst_of hn ho) (hgt i o ho) hkk hqs fun a' w' g' => ?_
     refine ih _ (i :: l) a' w' vs rem ae (hM.set h1) hc' (by simp; omega) hvl' hrn (fun x => ?_) hax hvq (hea.imp (fun ⟨e, h1, h2, h3⟩ => ⟨e, h1, h2, List.mem_cons_of_mem _ h3⟩) (fun h => h)) ?_
     ·rw [hr x, List.mem_cons]
      constructor
      ·rintro ⟨k1, k2⟩; exact ⟨k1, fun h => h.elim (fun e => by subst e; rw [memN_iff.2 k1] at hiE; cases hiE) k2⟩
      ·rintro ⟨h1, h2⟩; exact ⟨h1, fun h => h2 (.inr h)⟩
     ·simp only [frameOf, hdst]
      rw [hvq i hiE]
      exact g'
 refine key ops.size (Array.replicate ops.size false) [] a _ vs0 E ae0 ⟨by simp, fun i hi => by simp [hi], by simp⟩ .nil (by simp) hvl hEn (fun x => by simp) hx (fun _ _ => rfl) (.inr ⟨[], rfl⟩) ?_
 have hx : Ext (fun _ _ => False) w { w with drawn := w.drawn + 1 } := ⟨rfl, rfl, rfl, Nat.le_refl _, fun _ _ _ => rfl, fun _ _ h _ => h⟩
 exact { g with st := g.st.grow hx, ext := ⟨g.ext.os, g.ext.tape, g.ext.output, g.ext.size, g.ext.blk, g.ext.cell⟩, fr := fun s v hs => Rel.mv (w := w) (w' := { w with drawn := w.drawn + 1 }) (S := Sof C.Fr (ae0 ++ aq)) (S' := Sof C.Fr (ae0 ++ aq)) (fun _ _ hc hs => ⟨hc, hs⟩) (g.fr s v hs) }
end
structure AQ2 (P : Program) (ops : Array Oper) (aq aa : AH) (E N : List Nat) (n : Nat) (rest : List Oper) (af : AF) (K : List AV → Prop) : Prop where
 out : ∃ us : List AV, us.length = rest.length ∧ K us ∧ ∀ i o v, rest[i]? = some o → us[i]? = some v →
  memN (n + i) E = true ∨ QStep P ops aq o (((rest.zip us).take i).foldl (fun f p => put f p.1.dst p.2) af) v ∨ (earlyN ops E N (n + i) = true ∧ QStep P ops aa o (((rest.zip us).take i).foldl (fun f p => put f p.1.dst p.2) af) v)
section
variable {P : Program} {ops : Array Oper} {aq aa : AH} {E N : List Nat} {n : Nat} {af : AF} {K : List AV → Prop} {rest : List Oper} {o : Oper}
theorem AQ2.nil (h : K []) : AQ2 P ops aq aa E N n [] af K := ⟨[], rfl, h, by simp⟩
theorem AQ2.cons {v : AV} (h : memN n E = true ∨ QStep P ops aq o af v ∨ (earlyN ops E N n = true ∧ QStep P ops aa o af v)) (k : AQ2 P ops aq aa E N (n + 1) rest (put af o.dst v) (fun us => K (v :: us))) : AQ2 P ops aq aa E N n (o :: rest) af K := by
 obtain ⟨vs, h1, h2, h3⟩ := k.out
 refine ⟨v :: vs, by simp [h1], h2, fun i o' v' ho hv => ?_⟩
 cases i with
 | zero => simp at ho hv; subst ho; subst hv; simpa using h
 | succ i =>
  have := h3 i o' v' (by simpa using ho) (by simpa using hv)
  rw [show n + 1 + i = n + (i + 1) by omega] at this
  simpa using this
theorem AQ2.hole {af' : AF} (he : memN n E = true) (hp : put af o.dst .any = af') (k : AQ2 P ops aq aa E N (n + 1) rest af' (fun us => K (.any :: us))) : AQ2 P ops aq aa E N n (o :: rest) af K := AQ2.cons (.inl he) (by rw [hp]; exact k)
theorem AQ2.op {v : AV} {d : Nat} {af' : AF} (hkp : keep (oslots ops o) af = af') (h : AOp P o af' aq (D v aq)) (hg : o.guard = none) (hd : o.dst = some d) (k : AQ2 P ops aq aa E N (n + 1) rest ((d, v) :: af) (fun us => K (v :: us))) : AQ2 P ops aq aa E N n (o :: rest) af K :=
 AQ2.cons (.inr (.inl (.inl ⟨by simp [gdo, hg], hkp ▸ h⟩))) (by rw [hd]; exact k)
theorem AQ2.early {v : AV} {d : Nat} {af' : AF} (he : earlyN ops E N n = true) (hkp : keep (oslots ops o) af = af') (h : AOp P o af' aa (D v aa)) (hg : o.guard = none) (hd : o.dst = some d) (k : AQ2 P ops aq aa E N (n + 1) rest ((d, v) :: af) (fun us => K (v :: us))) : AQ2 P ops aq aa E N n (o :: rest) af K :=
 AQ2.cons (.inr (.inr ⟨he, .inl ⟨by simp [gdo, hg], hkp ▸ h⟩⟩)) (by rw [hd]; exact k)
theorem AQ2.gop {v : AV} {d : Nat} {af' : AF} (hkp : keep (oslots ops o) af = af') (h : AOp P o af' aq (D v aq)) (hg : gdo ops af' o = some true) (hd : o.dst = some d) (k : AQ2 P ops aq aa E N (n + 1) rest ((d, v) :: af) (fun us => K (v :: us))) : AQ2 P ops aq aa E N n (o :: rest) af K :=
 AQ2.cons (.inr (.inl (.inl ⟨hkp ▸ hg, hkp ▸ h⟩))) (by rw [hd]; exact k)
theorem AQ2.skip {d : Nat} {af' : AF} (hkp : keep (oslots ops o) af = af') (hg : gdo ops af' o = some false) (hd : o.dst = some d) (k : AQ2 P ops aq aa E N (n + 1) rest ((d, .tup []) :: af) (fun us => K (.tup [] :: us))) : AQ2 P ops aq aa E N n (o :: rest) af K :=
 AQ2.cons (.inr (.inl (.inr ⟨hkp ▸ hg, rfl⟩))) (by rw [hd]; exact k)
end
section
variable {P : Program} {ops : Array Oper} {aq aa : AH} {E N : List Nat} {n : Nat} {af af' : AF} {K : List AV → Prop} {rest : List Oper} {o : Oper}
theorem AQ2.ev {P : Program} {aq aa : AH} {E N : List Nat} {n : Nat} {K : List AV → Prop} {o : Oper} {v : AV} {d : Nat} {af' : AF} (hkp : keep (oslots ops o) af = af') (h : evalOp af' o.op = some v) (hg : o.guard = none) (hd : o.dst = some d) (k : AQ2 P ops aq aa E N (n + 1) rest ((d, v) :: af) (fun us => K (v :: us))) : AQ2 P ops aq aa E N n (o :: rest) af K :=
 AQ2.op hkp (AOp.ev h) hg hd k
theorem AQ2.p {v : AV} {d : Nat} (hkp : keep (oslots ops o) af = af') (h : AOp P o af' aq (D v aq)) (k : AQ2 P ops aq aa E N (n + 1) rest ((d, v) :: af) (fun us => K (v :: us))) (hg : o.guard = none := by exact rfl) (hd : o.dst = some d := by exact rfl) : AQ2 P ops aq aa E N n (o :: rest) af K := AQ2.op hkp h hg hd k
theorem AQ2.pe {v : AV} {d : Nat} (hkp : keep (oslots ops o) af = af') (h : AOp P o af' aa (D v aa)) (k : AQ2 P ops aq aa E N (n + 1) rest ((d, v) :: af) (fun us => K (v :: us))) (hg : o.guard = none := by exact rfl) (hd : o.dst = some d := by exact rfl) (he : earlyN ops E N n = true := by kernel_rfl) : AQ2 P ops aq aa E N n (o :: rest) af K := AQ2.early he hkp h hg hd k
theorem AQ2.e {v : AV} {d : Nat} (k : AQ2 P ops aq aa E N (n + 1) rest ((d, v) :: af) (fun us => K (v :: us))) (hkp : keep (oslots ops o) af = af' := by exact rfl) (h : evalOp af' o.op = some v := by exact rfl) (hg : o.guard = none := by exact rfl) (hd : o.dst = some d := by exact rfl) : AQ2 P ops aq aa E N n (o :: rest) af K := AQ2.ev hkp h hg hd k
theorem AQ2.gp {v : AV} {d : Nat} (hkp : keep (oslots ops o) af = af') (h : AOp P o af' aq (D v aq)) (k : AQ2 P ops aq aa E N (n + 1) rest ((d, v) :: af) (fun us => K (v :: us))) (hg : gdo ops af' o = some true := by exact rfl) (hd : o.dst = some d := by exact rfl) : AQ2 P ops aq aa E N n (o :: rest) af K := AQ2.gop hkp h hg hd k
theorem AQ2.ge {v : AV} {d : Nat} (k : AQ2 P ops aq aa E N (n + 1) rest ((d, v) :: af) (fun us => K (v :: us))) (hkp : keep (oslots ops o) af = af' := by exact rfl) (h : evalOp af' o.op = some v := by exact rfl) (hg : gdo ops af' o = some true := by exact rfl) (hd : o.dst = some d := by exact rfl) : AQ2 P ops aq aa E N n (o :: rest) af K := AQ2.gop hkp (AOp.ev h) hg hd k
theorem AQ2.k {d : Nat} (k : AQ2 P ops aq aa E N (n + 1) rest ((d, .tup []) :: af) (fun us => K (.tup [] :: us))) (hkp : keep (oslots ops o) af = af' := by exact rfl) (hg : gdo ops af' o = some false := by exact rfl) (hd : o.dst = some d := by exact rfl) : AQ2 P ops aq aa E N n (o :: rest) af K := AQ2.skip hkp hg hd k
theorem AQ2.hl (k : AQ2 P ops aq aa E N (n + 1) rest af' (fun us => K (.any :: us))) (he : memN n E = true := by exact rfl) (hp : put af o.dst .any = af' := by exact rfl) : AQ2 P ops aq aa E N n (o :: rest) af K := AQ2.hole he hp k
end
section
variable {C : Cx} {ds : List Deferred} {ks : List K} {af : AF}
theorem AW.explore2 {ops : Array Oper} {id : Nat} {ae aq : AH} (N E : List Nat) (hm : C.P.follows .mixedOrders = true) (hd : drawOK ops = true) (hn : ops.toList.all (fun o => okDst o.dst C.n) = true) (hqo : quietOK ops E = true) (hE : okE E ops.size = true)
  (h : AQ2 C.P ops aq (ae ++ aq) E N 0 ops.toList af (fun vs => AX2 N C ds ks ops af aq E.length E vs ae)) : AW C ds (.c (.region id ops true) :: ks) af (ae ++ aq) := by
 obtain ⟨vs, h1, h2, h3⟩ := h.out
 refine AW.explore2_core (N := N) hm hd hn hqo (okE_iff hE).1 (okE_iff hE).2 (vs0 := vs) (by simpa using h1) (fun x o v hx ho hv => ?_) h2
 have hxs : x < ops.size := (Array.getElem?_eq_some_iff.1 ho).1
 have := h3 x o v (by simpa using ho) hv
 rw [Nat.zero_add, hx, ← frameOf_down x (by omega) (by rw [h1, Array.length_toList]; omega)] at this
 exact this.resolve_left (by simp)
end
section
variable {N : List Nat} {C : Cx} {ds : List Deferred} {ks : List K} {ops : Array Oper} {af : AF} {aq ae : AH} {n : Nat} {rem : List Nat} {vs : List AV}
def AX2S (N : List Nat) (C : Cx) (ds : List Deferred) (ks : List K) (ops : Array Oper) (af : AF) (aq : AH) (n : Nat) (rem : List Nat) (vs : List AV) (ae : AH) (i : Nat) : Prop :=
 ∃ o, ops[i]? = some o ∧
   ((gdo ops (keep (oslots ops o) (frameOf ops vs af (down i))) o = some false ∧ AX2 N C ds ks ops af aq n (rem.erase i) (vs.set i (.tup [])) ae) ∨
    (gdo ops (keep (oslots ops o) (frameOf ops vs af (down i))) o = some true ∧ ∃ Φ : AEnd → AH → Prop, AOp C.P o (keep (oslots ops o) (frameOf ops vs af (down i))) ae Φ ∧
     (∀ v h, Φ (.ret v) h → AX2 N C ds ks ops af aq n (rem.erase i) (vs.set i v) h ∧ (memN i N = true → ∃ A, h = A ++ ae)) ∧ (∀ v h, Φ (.pan v) h → APan C ds v (h ++ aq))))
theorem AX2.done_keep (is : List Nat) (k : AW C ds ks (keep is (frameOf ops vs af (down ops.size))) (ae ++ aq)) : AX2 N C ds ks ops af aq 0 rem vs ae := AW.weaken k fun i v hi => get_keep hi
theorem AX2.next (l : List Nat) (hr : readyL ops rem = l) (h : ∀ i ∈ l, AX2S N C ds ks ops af aq n rem vs ae i) : AX2 N C ds ks ops af aq (n + 1) rem vs ae := by
 intro i hi hf
 refine h i ?_
 rw [← hr]
 simp only [readyL, List.mem_filter, List.all_eq_true, Bool.not_eq_true']
 exact ⟨hi, hf⟩
theorem AX2.one (i : Nat) (hr : readyL ops rem = [i]) (h : AX2S N C ds ks ops af aq n rem vs ae i) : AX2 N C ds ks ops af aq (n + 1) rem vs ae :=
 AX2.next [i] hr fun j hj => by obtain rfl := List.mem_singleton.1 hj; exact h
theorem AX2.two (i j : Nat) (hr : readyL ops rem = [i, j]) (h : AX2S N C ds ks ops af aq n rem vs ae i) (h' : AX2S N C ds ks ops af aq n rem vs ae j) : AX2 N C ds ks ops af aq (n + 1) rem vs ae :=
 AX2.next [i, j] hr fun k hk => by
  rcases List.mem_cons.1 hk with rfl | hk
  ·exact h
  ·obtain rfl := List.mem_singleton.1 hk; exact h'
theorem AX2S.step {i : Nat} {o : Oper} {af' : AF} {Φ : AEnd → AH → Prop} (ho : ops[i]? = some o) (hg : o.guard = none) (hkp : keep (oslots ops o) (frameOf ops vs af (down i)) = af') (h : AOp C.P o af' ae Φ)
  (hk : ∀ v h, Φ (.ret v) h → AX2 N C ds ks ops af aq n (rem.erase i) (vs.set i v) h) (hp : ∀ v h, Φ (.pan v) h → APan C ds v (h ++ aq)) (hN : memN i N = false := by exact rfl) : AX2S N C ds ks ops af aq n rem vs ae i :=
 ⟨o, ho, .inr ⟨by simp [gdo, hg], Φ, hkp ▸ h, fun v h hΦ => ⟨hk v h hΦ, fun e => by rw [hN] at e; cases e⟩, hp⟩⟩
theorem AX2S.det {i : Nat} {o : Oper} {af' : AF} {v : AV} {ae' : AH} (ho : ops[i]? = some o) (hg : o.guard = none) (hkp : keep (oslots ops o) (frameOf ops vs af (down i)) = af') (h : AOp C.P o af' ae (D v ae'))
  (hk : AX2 N C ds ks ops af aq n (rem.erase i) (vs.set i v) ae') (hN : memN i N = false := by exact rfl) : AX2S N C ds ks ops af aq n rem vs ae i :=
 AX2S.step ho hg hkp h (by rintro v' h' ⟨e, rfl⟩; injection e with e; subst e; exact hk) (by rintro v' h' ⟨e, _⟩; cases e) hN
theorem AX2S.mk {i : Nat} {o : Oper} {af' : AF} {Φ : AEnd → AH → Prop} (ho : ops[i]? = some o) (hg : o.guard = none) (hkp : keep (oslots ops o) (frameOf ops vs af (down i)) = af') (h : AOp C.P o af' [] Φ)
  (hk : ∀ v h, Φ (.ret v) h → AX2 N C ds ks ops af aq n (rem.erase i) (vs.set i v) (h ++ ae)) (hp : ∀ v h, Φ (.pan v) h → APan C ds v (h ++ ae ++ aq)) : AX2S N C ds ks ops af aq n rem vs ae i :=
 ⟨o, ho, .inr ⟨by simp [gdo, hg], _, (hkp ▸ h).frameL ae, by rintro v _ ⟨h1, hΦ, rfl⟩; exact ⟨hk v h1 hΦ, fun _ => ⟨h1, rfl⟩⟩, by rintro v _ ⟨h1, hΦ, rfl⟩; exact hp v h1 hΦ⟩⟩
theorem AX2S.sl (j : Nat) {i : Nat} {x y : Operand} {b off : Nat} {c c' v : AV} {t T : TypeId} {ps : String} {es : Array Edge} {af' : AF} (ho : ops[i]? = some ⟨none, .store t x y, T, ps, es, none⟩) (hkp : keep (oslots ops ⟨none, .store t x y, T, ps, es, none⟩) (frameOf ops vs af (down i)) = af')
  (hk : ∀ u, AX2 N C ds ks ops af aq n (rem.erase i) (vs.set i u) (ae.set j (.box b c'))) (hx : aeval af' x = some (.ref b off) := by exact rfl) (hy : aeval af' y = some v := by exact rfl) (hi : ae[j]? = some (.box b c) := by exact rfl) (hs : c.upd off v = some c' := by exact rfl) (hok : v.cellOK = true := by exact rfl)
  (ht : tkind C.P t = some (v.isSt, v.size) := by kernel_rfl) (hN : memN i N = false := by exact rfl) : AX2S N C ds ks ops af aq n rem vs ae i :=
 AX2S.step ho rfl hkp (AOp.store_box hx hy hi hs hok ht) (by rintro v h ⟨_, rfl⟩; exact hk v) (by rintro _ _ ⟨⟨_, e⟩, _⟩; cases e) hN
end
def symTy (P : Program) (t : TypeId) : Bool := match P.underlying t with
 | some (.struct fs) => (match fs.toList with
  | [f, g] => decide (f.name ≠ "_") && decide (g.name ≠ "_") && decide (f.offset = 0) && decide (g.offset = 1) && (match P.underlying f.type with | some .string => true | _ => false) && (match P.underlying g.type with | some (.int _) => true | _ => false)
  | _ => false) && !P.stoodInHeld t && !P.eqGuardType P.depth t
 | _ => false
theorem run_sym_eq {P : Program} (w : World) {t : TypeId} (ht : symTy P t = true) (s u : ByteArray) (a b : Int) :
  (binOp .eql t (.agg #[.string s, .int .i64 a]) (.agg #[.string u, .int .i64 b])).run P w = .ok (.bool (s.toList == u.toList && a == b)) w ∧ P.eqGuardType P.depth t = false := by
 unfold symTy at ht
 split at ht
 ·rename_i fs hu
  simp only [Bool.and_eq_true, Bool.not_eq_true'] at ht
  obtain ⟨⟨h1, h2⟩, h3⟩ := ht
  have hf : P.fieldsOf t = fs := by unfold Program.fieldsOf; rw [hu]
  split at h1
  ·rename_i f g hfs
   simp only [Bool.and_eq_true, decide_eq_true_eq] at h1
   obtain ⟨⟨⟨⟨⟨f1, f2⟩, f3⟩, f4⟩, f5⟩, f6⟩ := h1
   split at f5
   ·rename_i hs
    split at f6
    ·rename_i k hk
     refine ⟨?_, h3⟩
     have p1 : P.plainKey f.type = true := by unfold Program.plainKey; rw [hs]
     have p2 : P.plainKey g.type = true := by unfold Program.plainKey; rw [hk]
     rw [run_eql_struct, run_equalIn_struct w 9999 t _ _ (by rw [hf]; exact hu) h2, hf, hfs]
     simp only [Op.eqFields, f1, f2, ne_eq, not_false_eq_true, if_true, Sem.run_bind]
     rw [f3, f4, run_part_plain w p1 (v := .string s) rfl]
     simp only [Result.andThen_ok]
     rw [run_part_plain w p1 (v := .string u) rfl]
     simp only [Result.andThen_ok]
     rw [run_equalIn_string w 9998 f.type s u hs]
     simp only [Result.andThen_ok]
     cases hsu : (s.toList == u.toList) with
     | false => simp
     | true =>
      simp only [Bool.not_true, Bool.false_eq_true, if_false, Sem.run_bind]
      rw [run_part_plain w p2 (v := .int .i64 a) rfl]
      simp only [Result.andThen_ok]
      rw [run_part_plain w p2 (v := .int .i64 b) rfl]
      simp only [Result.andThen_ok]
      rw [run_equalIn_int w 9998 g.type .i64 k a b hk]
      simp only [Result.andThen_ok]
      cases hab : (a == b) <;> simp
    ·cases f6
   ·cases f5
  ·cases h1
 ·cases ht
section
variable {P : Program} {af : AF} {ah : AH}
variable {d : Option Tmp} {T : TypeId} {ps : String} {es : Array Edge} {gd : Option (Nat × Bool)}
theorem rel_sym {S : Rg} {w : World} {s : ByteArray} {a : Int} {u : Value} (h : Rel S w (.st [.str s, .int .i64 a]) u) : u = .agg #[.string s, .int .i64 a] := by
 obtain ⟨cs, rfl, h1⟩ := h.st
 simp only [RelCs, RelC] at h1
 obtain ⟨c1, c2, rfl, rfl, c3, c4, rfl, rfl, rfl⟩ := h1
 rfl
theorem AOp.sym_eq {x y : Operand} {s t : ByteArray} {a b : Int} {xT yT : TypeId} (ht : symTy P xT = true) (hx : aeval af x = some (.st [.str s, .int .i64 a])) (hy : aeval af y = some (.st [.str t, .int .i64 b])) :
  AOp P ⟨d, .binOp .eql xT x y yT, T, ps, es, gd⟩ af ah (D (.bool (s.toList == t.toList && a == b)) ah) :=
 AOp.of_pure fun S ac w hf _ => ⟨.bool (s.toList == t.toList && a == b), by
  obtain ⟨h1, h2⟩ := run_sym_eq w ht s t a b
  simp only [execOp, rel_sym (aeval_rel hf hx), rel_sym (aeval_rel hf hy), Sem.run_bind]
  rw [run_eqGuard_agg w _ _ _ _ _ _ h2]
  simp [h1], mk_bool⟩
end
structure TriY (P : Program) (l : Nat) (tm : List Value) (ix : List Nat) (vs args : List AV) (ah : AH) (Φ : AEnd → AH → Prop) : Prop where
 out : ∀ Fr w us, St Fr ah w → RelVs (Sof Fr ah) w args us → RelVs (Sof Fr ah) w vs (ix.map fun i => tm.getD i undef) →
  ∃ fn tmps x y, (Instr.yield l us.toArray).run P w = .ok (.round l fn tmps x y) w ∧ RoundIn Fence.wide 0 P l fn tmps x y w (EndR Fr (reg ah) w Φ)
section
variable {P : Program} {af : AF} {ah : AH}
variable {d : Option Tmp} {T : TypeId} {ps : String} {es : Array Edge} {gd : Option (Nat × Bool)}
theorem AOp.yield {y : Tmp} {l : Nat} {tm : List Value} {ix : List Nat} {vs : List AV} {xs : Array Operand} {tys : Array TypeId} {args : List AV} {Φ : AEnd → AH → Prop} (hy : aeval af (.tmp y) = some (.yl l tm ix vs)) (hx : aevals af xs.toList = some args)
  (h : TriY P l tm ix vs args ah Φ) : AOp P ⟨d, .call ⟨.value (.tmp y), xs, tys⟩, T, ps, es, gd⟩ af ah Φ := .mk fun Fr a w hst hf => by
 have hv := (aeval_rel hf hy)
 obtain ⟨hv1, hv2⟩ := hv
 simp only [RelC] at hv1
 obtain ⟨hv1, hv3⟩ := hv1
 have he : a.eval (.tmp y) = .func (.yield l) #[] #[] := one_of_shape hv2 hv1
 obtain ⟨fn, tmps, x, z, hrun, hR⟩ := h.out Fr w _ hst (aevals_rel hf hx) hv3
 have hexec : (execOp a.eval ⟨d, .call ⟨.value (.tmp y), xs, tys⟩, T, ps, es, gd⟩).run P w = .ok (.round l fn tmps x z) w := by
  simp only [execOp, resolve, he, Deferred.ofValue, Sem.run_bind, Sem.run_pure, Result.andThen_ok, invoke]
  rw [← hrun]
  congr 2
  apply Array.ext'
  simp
 rw [hexec]
 exact ⟨⟨y, xs, tys, rfl⟩, hR⟩
end
theorem St.setObj {Fr : Rg} {ah : AH} {w : World} (s : St Fr ah w) {i b : Nat} {o : Obj} (o' : Obj) (hi : ah[i]? = some (.obj b o)) (hc : ∀ cs t z, o ≠ .cells cs t z) :
  St Fr (ah.set i (.obj b o')) (w.putObj b o') ∧ Ext (reg ah) w (w.putObj b o') ∧ ∀ b1 o1, b1 < w.heap.size → reg (ah.set i (.obj b o')) b1 o1 → reg ah b1 o1 := by
 have hh : w.heap[b]? = some o := s.rel _ (List.mem_of_getElem? hi)
 have hb : b < w.heap.size := (Array.getElem?_eq_some_iff.1 hh).1
 exact s.update (x' := .obj b o') hi (set_objE hh hc) (fun k h => .inl h) (fun k o1 _ h => h) (fun k h => by simp only [Own.blk, Option.some.injEq] at h; subst h; simpa using hb) (fun m => World.putObj_heap_same hb)
section
variable {C : Cx} {ds : List Deferred} {ks : List K} {af : AF} {ah : AH}
theorem Good.setObj {a : Act} {w : World} (g : Good C ds af ah a w) {i b : Nat} {o : Obj} (o' : Obj) (hi : ah[i]? = some (.obj b o)) (hc : ∀ cs t z, o ≠ .cells cs t z) : Good C ds af (ah.set i (.obj b o')) a (w.putObj b o') := by
 obtain ⟨k1, k2, k3⟩ := g.st.setObj o' hi hc
 exact g.next (d := none) (v := .any) (u := undef) rfl ⟨by simp [RelC, undef, Value.cells], by simp [Shape]⟩ k1 k2 k3
end
def lrec (fn : FuncId) (tm : List Value) (ps : Array Tmp) (x y : Code) (D : Nat) (st : LoopState) (pe : Option Code) : Loop := { state := st, pending := pe, fn, tmps := tm.toArray, params := ps, assign := x, body := y, defers := D }
def mkD (D : Nat) : Deferred := { target := .collected D, args := #[] }
def dfO (D : Nat) : Own := .obj D (.deferred (some []))
abbrev Crd (P : Program) (n l : Nat) (Fr R0 : Rg) (w0 : World) (Φ : AEnd → AH → Prop) : Cx := { P, n, Fr, R0, w0, R := roundPost P l (EndR Fr R0 w0 Φ), ro := some l }
section
variable {P : Program} {n l : Nat} {Fr R0 : Rg} {w0 : World} {Φ : AEnd → AH → Prop} {ks : List K} {af : AF} {ah : AH}
theorem AW.roundEnd (i : Nat) {r : Loop} (hi : ah[i]? = some (.obj l (.loop r))) (h : Φ (.ret (.bool true)) (ah.set i (.obj l (.loop { r with state := .ready, pending := none })))) : AW (Crd P n l Fr R0 w0 Φ) [] [] af ah := AW.done fun a w g => by
 have hh : w.heap[l]? = some (.loop r) := g.st.rel _ (List.mem_of_getElem? hi)
 have g' := g.setObj (.loop { r with state := .ready, pending := none }) hi (fun _ _ _ h => by cases h)
 exact ⟨_, _, run_endRound none hh, _, _, h, ⟨_, rfl, mk_bool⟩, g'.st, g'.ext, g'.old⟩
end
def bindF : List Tmp → List AV → AF → AF
 | p :: ps, v :: vs, af => bindF ps vs ((p, v) :: af)
 | _, _, af => af
theorem bind_rel {S : Rg} {w : World} {n : Nat} : ∀ (ps : List Tmp) (args : List AV) (us : List Value) (af : AF) (tm : Array Value), RelVs S w args us → args.length = ps.length → ps.all (fun p => Nat.blt p n) = true → tm.size = n →
  (∀ i v, get af i = some v → Rel S w v (tm.getD i undef)) →
  ((ps.zip us).foldl (fun t (p : Tmp × Value) => t.setIfInBounds p.1 p.2) tm).size = n ∧ ∀ i v, get (bindF ps args af) i = some v → Rel S w v (((ps.zip us).foldl (fun t (p : Tmp × Value) => t.setIfInBounds p.1 p.2) tm).getD i undef)
 | [], args, us, af, tm, hr, hl, hp, hs, h => ⟨by simpa using hs, by simpa [bindF] using h⟩
 | p :: ps, [], us, af, tm, hr, hl, hp, hs, h => by simp at hl
 | p :: ps, x :: args, us, af, tm, hr, hl, hp, hs, h => by
  simp only [RelVs] at hr
  obtain ⟨u, us', rfl, h1, h2, h3⟩ := hr
  simp only [List.all_cons, Bool.and_eq_true] at hp
  have hpn : p < tm.size := by rw [hs]; simpa using hp.1
  refine bind_rel ps args us' ((p, x) :: af) (tm.setIfInBounds p u) h3 (by simpa using hl) hp.2 (by simpa using hs) fun i v hi => ?_
  rw [get_cons] at hi
  by_cases e : p = i
  ·subst e
   rw [if_pos rfl] at hi
   obtain rfl := Option.some.inj hi
   rw [Array.getD_eq_getD_getElem?, Array.getElem?_setIfInBounds_self_of_lt hpn]
   exact ⟨h1, h2⟩
  ·rw [if_neg e] at hi
   rw [Array.getD_eq_getD_getElem?, Array.getElem?_setIfInBounds_ne e, ← Array.getD_eq_getD_getElem?]
   exact h i v hi
def zipF : List Nat → List AV → AF
 | i :: is, v :: vs => (i, v) :: zipF is vs
 | _, _ => []
theorem zip_rel {S : Rg} {w : World} {tm : List Value} : ∀ (ix : List Nat) (vs : List AV), RelVs S w vs (ix.map fun i => tm.getD i undef) → ∀ i v, get (zipF ix vs) i = some v → Rel S w v (tm.toArray.getD i undef)
 | [], vs, h, i, v, hi => by cases vs <;> simp [zipF, get] at hi
 | j :: ix, [], h, i, v, hi => by simp [zipF, get] at hi
 | j :: ix, x :: vs, h, i, v, hi => by
  simp only [List.map_cons, RelVs] at h
  obtain ⟨u, us', e, h1, h2, h3⟩ := h
  injection e with e1 e2
  subst e2
  rw [zipF, get_cons] at hi
  by_cases e : j = i
  ·subst e
   rw [if_pos rfl] at hi
   obtain rfl := Option.some.inj hi
   have : tm.toArray.getD j undef = u := by rw [← e1]; simp [Array.getD_eq_getD_getElem?, List.getD_eq_getElem?_getD]
   rw [this]; exact ⟨h1, h2⟩
  ·rw [if_neg e] at hi
   exact zip_rel ix vs h3 i v hi
theorem TriY.round {P : Program} {n l D fn : Nat} {tm : List Value} {ps : Array Tmp} {x y : Code} {ix : List Nat} {vs args : List AV} {ah : AH} {Φ : AEnd → AH → Prop} (i : Nat) (I : AF → AH → Prop)
  (hi : ah[i]? = some (.obj l (.loop (lrec fn tm ps x y D .ready none)))) (htm : tm.length = n) (hl : args.length = ps.toList.length) (hp : ps.toList.all (fun p => Nat.blt p n) = true)
  (ha : ∀ Fr w0 R, AW { P, n, Fr, R0 := reg ah, w0, R, ro := some l } [] [.c x, .back (Jm { P, n, Fr, R0 := reg ah, w0, R, ro := some l } [] I)] (bindF ps.toList args (zipF ix vs)) ah)
  (hI : ∀ af1 ah1, I af1 ah1 → ∃ j, ah1[j]? = some (.obj l (.loop (lrec fn tm ps x y D .ready none))) ∧ ∀ Fr w0, AW (Crd P n l Fr (reg ah) w0 Φ) [] [.c y] af1 (ah1.set j (.obj l (.loop (lrec fn tm ps x y D .busy none))))) :
  TriY P l tm ix vs args ah Φ := .mk fun Fr w us hst hr hv => by
 have hh : w.heap[l]? = some (.loop (lrec fn tm ps x y D .ready none)) := hst.rel _ (List.mem_of_getElem? hi)
 have hlen := hr.length
 refine ⟨fn, _, x, y, run_yield hh (by simp [lrec, hlen, hl]), roundIn_of_wpIn trivial ?_⟩
 have hb := bind_rel (n := n) ps.toList args us (zipF ix vs) tm.toArray hr hl hp (by simpa using htm) (zip_rel ix vs hv)
 have hfold : (ps.zip us.toArray).foldl (fun tmps (t, a) => tmps.setIfInBounds t a) (lrec fn tm ps x y D .ready none).tmps = (ps.toList.zip us).foldl (fun t (p : Tmp × Value) => t.setIfInBounds p.1 p.2) tm.toArray := by
  rw [← Array.foldl_toList, Array.toList_zip]; rfl
 have g0 : Good { P, n, Fr, R0 := reg ah, w0 := w, R := roundPost P l (EndR Fr (reg ah) w Φ), ro := some l } [] (bindF ps.toList args (zipF ix vs)) ah { tmps := (ps.zip us.toArray).foldl (fun tmps (t, a) => tmps.setIfInBounds t a) (lrec fn tm ps x y D .ready none).tmps, defers := [] } w := by
  rw [hfold]
  exact ⟨hb.1, rfl, hst, Ext.refl _ _, fun _ _ _ h => h, hb.2⟩
 have h1 := (ha Fr w (fun _ _ _ => False)).out _ w { size := g0.size, defers := g0.defers, st := g0.st, ext := g0.ext, old := g0.old, fr := g0.fr }
 simp only [hnd] at h1
 refine wpIn_mono h1 fun e a1 w1 q => ?_
 cases e with
 | normal =>
  simp only [hnd] at q
  obtain ⟨af1, ah1, hi1, g1⟩ := q
  obtain ⟨j, hj, hB⟩ := hI af1 ah1 hi1
  have hh1 : w1.heap[l]? = some (.loop (lrec fn tm ps x y D .ready none)) := g1.st.rel _ (List.mem_of_getElem? hj)
  have g2 : Good (Crd P n l Fr (reg ah) w Φ) [] af1 ah1 a1 w1 := ⟨g1.size, g1.defers, g1.st, g1.ext, g1.old, g1.fr⟩
  have g3 := g2.setObj (.loop (lrec fn tm ps x y D .busy none)) hj (fun _ _ _ h => by cases h)
  refine ⟨_, run_beginRound hh1 rfl, ?_⟩
  have h2 := (hB Fr w).out a1 _ g3
  simp only [hnd] at h2
  exact wpIn_mono h2 fun e a w q => by cases e <;> simpa [hnd] using q
 | _ => simp only [hnd] at q
theorem TriY.frame {P : Program} {l : Nat} {tm : List Value} {ix : List Nat} {vs args : List AV} {ah : AH} {Φ : AEnd → AH → Prop} (m : List Bool) (h : TriY P l tm ix vs args (sel m ah) Φ) :
  TriY P l tm ix vs args ah (fun x h => ∃ h1, Φ x h1 ∧ h = h1 ++ uns m ah) := .mk fun Fr w us hst hr hv => by
 have hp := sel_perm m ah
 have s := hst.perm hp.symm
 have mv := Mv.same (S := Sof Fr ah) (S' := Sof Fr (sel m ah ++ uns m ah)) w fun b o hs => hs.elim .inl fun h' => .inr ((reg_perm hp).1 h')
 obtain ⟨fn, tmps, x, y, hrun, hR⟩ := h.out (Sof Fr (uns m ah)) w us s.part (by rw [sof_part]; exact RelVs.mv mv _ _ hr) (by rw [sof_part]; exact RelVs.mv mv _ _ hv)
 exact ⟨fn, tmps, x, y, hrun, hR.mono fun e w' he => (EndR.frame s he).perm fun b o => reg_perm hp⟩
theorem TriY.mono {P : Program} {l : Nat} {tm : List Value} {ix : List Nat} {vs args : List AV} {ah : AH} {Φ Ψ : AEnd → AH → Prop} (h : TriY P l tm ix vs args ah Φ) (k : ∀ x h, Φ x h → Ψ x h) : TriY P l tm ix vs args ah Ψ :=
 .mk fun Fr w us h1 h2 h3 => let ⟨fn, tmps, x, y, hrun, hR⟩ := h.out Fr w us h1 h2 h3; ⟨fn, tmps, x, y, hrun, hR.mono fun e w' he => he.mono k⟩
section
variable {C : Cx} {ds : List Deferred} {ks : List K} {af : AF} {ah : AH} {ops : Array Oper} {rest : List Oper}
theorem AL.yield {dd : Option Tmp} {T : TypeId} {ps : String} {es : Array Edge} {y : Tmp} {l : Nat} {tm : List Value} {ix : List Nat} {vs : List AV} {xs : Array Operand} {tys : Array TypeId} {args : List AV} {Φ : AEnd → AH → Prop} (hy : aeval af (.tmp y) = some (.yl l tm ix vs)) (hx : aevals af xs.toList = some args)
  (h : TriY C.P l tm ix vs args ah Φ) (hd : okDst dd C.n = true) (hp : ∀ v ah', Φ (.pan v) ah' → APan C ds v ah') (hk : ∀ v ah', Φ (.ret v) ah' → AL C ds ks ops rest (put af dd v) ah') : AL C ds ks ops (⟨dd, .call ⟨.value (.tmp y), xs, tys⟩, T, ps, es, none⟩ :: rest) af ah :=
 AL.step rfl hd (AOp.yield hy hx h) hk hp
def getsF (af : AF) : List Nat → Option (List AV)
 | [] => some []
 | i :: is => match get af i, getsF af is with | some v, some vs => some (v :: vs) | _, _ => none
theorem gets_rel {S : Rg} {w : World} {a : Act} (hf : AFRel S w af a) : ∀ (ix : List Nat) (vs : List AV), getsF af ix = some vs → RelVs S w vs (ix.map fun i => a.tmps.toList.getD i undef)
 | [], vs, h => by rw [getsF] at h; rw [← Option.some.inj h]; simp [RelVs]
 | i :: ix, vs, h => by
  rw [getsF] at h
  split at h
  ·rename_i v vs' e1 e2
   rw [← Option.some.inj h]
   have h1 := hf i v e1
   have e : a.tmps.toList.getD i undef = a.tmps.getD i undef := by simp [Array.getD_eq_getD_getElem?, List.getD_eq_getElem?_getD]
   simp only [List.map_cons, RelVs]
   exact ⟨_, _, rfl, by rw [e]; exact h1.1, by rw [e]; exact h1.2, gets_rel hf ix vs' e2⟩
  ·cases h
theorem Good.cons {a : Act} {w : World} (g : Good C ds af ah a w) (o : Obj) : Good C ds af (.obj w.heap.size o :: ah) a (w.alloc o) := by
 have hx : Ext (fun _ _ => False) w (w.alloc o) := ⟨rfl, rfl, rfl, by simp, fun k hk _ => Below.heap_alloc w _ k hk, fun ad v hc _ => (World.cell?_alloc_lt w _ ad (cell_lt hc)).trans hc⟩
 obtain ⟨k1, k2, k3⟩ := g.st.cons (x := .obj w.heap.size o) (b := w.heap.size) rfl (Nat.le_refl _) (by simp) hx (fun m => World.alloc_heap_new w o)
 exact g.next (d := none) (v := .any) (u := undef) rfl ⟨by simp [RelC, undef, Value.cells], by simp [Shape]⟩ k1 k2 k3
theorem AW.rangeFunc (hro : C.ro = none) {g : Operand} {ps : Array Tmp} {x y : Code} {gf : FuncId} {caps vs : List AV} (ix : List Nat) (Φn Φr : AH → Prop) (hg : aeval af g = some (.fn gf caps)) (hv : getsF af ix = some vs)
  (hit : ∀ fn l D tm, tm.length = C.n → Tri C.P gf (.yl l tm ix vs :: caps) (.obj l (.loop (lrec fn tm ps x y D .ready none)) :: dfO D :: ah)
   (fun r h => (∃ v, r = .ret v) ∧ ∃ st pe h', h = .obj l (.loop (lrec fn tm ps x y D st pe)) :: dfO D :: h' ∧ ((st = .ready ∧ pe = none ∧ Φn h') ∨ (st = .done ∧ pe = some .ret ∧ Φr h'))))
  (hn : ∀ D h, Φn h → AW C (mkD D :: ds) ks af (dfO D :: h)) (hr : ∀ D h, Φr h → AW C (mkD D :: ds) (.c .ret :: ks) af (dfO D :: h)) : AW C ds (.c (.rangeFunc g ps x y) :: ks) af ah := .mk fun a w gd => by
 simp only [hnd]
 refine wpIn_rangeFunc fun fn _ => ?_
 have g1 := (gd.cons (.deferred (some []))).cons (.loop (lrec fn a.tmps.toList ps x y w.heap.size .ready none))
 have hsz : (w.alloc (.deferred (some []))).heap.size = w.heap.size + 1 := by simp
 rw [hsz] at g1
 obtain ⟨lb, hlb, hcap⟩ := (aeval_rel g1.fr hg).fn
 have hR := (hit fn (w.heap.size + 1) w.heap.size a.tmps.toList (by simpa using gd.size)).out C.Fr _ (.func (.yield (w.heap.size + 1)) #[] #[] :: lb) g1.st (by
  simp only [RelVs]
  refine ⟨_, _, rfl, ?_, by simp [Shape], hcap⟩
  simp only [RelC, Value.cells]
  exact ⟨by trivial, gets_rel g1.fr ix vs hv⟩)
 have hcl := (hit fn (w.heap.size + 1) w.heap.size a.tmps.toList (by simpa using gd.size)).call
 refine ⟨w.heap.size + 1, [mkD w.heap.size], (w.alloc (.deferred (some []))).alloc (.loop (lrec fn a.tmps.toList ps x y w.heap.size .ready none)), { target := .fn (.func gf) lb.toArray, args := #[.func (.yield (w.heap.size + 1)) #[] #[]] }, (w.alloc (.deferred (some []))).alloc (.loop (lrec fn a.tmps.toList ps x y w.heap.size .ready none)), gf, (.func (.yield (w.heap.size + 1)) #[] #[] :: lb).toArray, (w.alloc (.deferred (some []))).alloc (.loop (lrec fn a.tmps.toList ps x y w.heap.size .ready none)), ?_, ?_, fun _ _ => trivial, ?_, fz_depth, callsFz (hR.mono fun e w3 he => ?_)⟩
 ·have e : (fz C.ro).round = none := hro
  rw [e, run_enterLoop_outer]
  simp only [lrec, Array.toArray_toList, mkD]
 ·simp only [resolve, hlb]
  simp [go_sem]
 ·simp only [invoke]
  rw [run_callFunc hcl]
  simp
 ·obtain ⟨r, ah3, ⟨⟨v, rfl⟩, st, pe, h', rfl, hc⟩, he, hst, hext, hnew⟩ := he
  obtain ⟨u, rfl, hu⟩ := he
  have g3 := g1.next (d := none) (v := .any) (u := undef) rfl ⟨by simp [RelC, undef, Value.cells], by simp [Shape]⟩ hst hext hnew
  have hh : w3.heap[w.heap.size + 1]? = some (.loop (lrec fn a.tmps.toList ps x y w.heap.size st pe)) := hst.rel _ (List.mem_cons_self ..)
  have g4 := g3.setObj (i := 0) (.loop (lrec fn a.tmps.toList ps x y w.heap.size .exhausted pe)) rfl (fun _ _ _ h => by cases h)
  have g5 := g4.sub (List.sublist_cons_self _ (dfO w.heap.size :: h'))
  have g6 : Good C (mkD w.heap.size :: ds) af (dfO w.heap.size :: h') { a with defers := [mkD w.heap.size] ++ a.defers } (w3.putObj (w.heap.size + 1) (.loop (lrec fn a.tmps.toList ps x y w.heap.size .exhausted pe))) :=
   ⟨g5.size, by show mkD _ :: a.defers = _; rw [gd.defers], g5.st, g5.ext, g5.old, g5.fr⟩
  have hend := run_endLoop (P := C.P) hh (by rcases hc with ⟨rfl, _⟩ | ⟨rfl, _⟩ <;> (intro h; cases h))
  refine ⟨pe, _, hend, ?_⟩
  rcases hc with ⟨rfl, rfl, hc⟩ | ⟨rfl, rfl, hc⟩
  ·exact (hn _ _ hc).out _ _ g6
  ·have := (hr _ _ hc).out _ _ g6
   simp only [hnd] at this
   exact this
end
abbrev CofM (P : Program) (fn : Func) (n : Nat) (Fr R0 : Rg) (w0 : World) (Φ : AEnd → AH → Prop) : Cx := { P, n, Fr, R0, w0, R := bodyPostM (fz none) 0 P fn (EndR Fr R0 w0 Φ) }
theorem Tri.enterM {P : Program} {f : FuncId} {args : List AV} {ah : AH} {Φ : AEnd → AH → Prop} {fn : Func} {c : Code} (n : Nat) (hf : P.funcs[f]? = some fn) (hb : fn.body = some c)
  (hname : (fn.name == "runtime.NumGoroutine") = false) (hn : fn.ntmps = n) (hl : Nat.ble args.length n = true)
  (h : ∀ Fr w0, AW (CofM P fn n Fr (reg ah) w0 Φ) [] [.c c] (enumFrom 0 args) ah) : Tri P f args ah Φ := by
 refine ⟨⟨fn, hf, hname, by rw [hb]; rfl⟩, fun Fr w vs hst hrel => (callsIn_wide (n := 0)).1 (callsIn_of_wp_marks hf hb trivial ?_ rfl)⟩
 have hlen := hrel.length
 have hl' : args.length ≤ n := by simpa using hl
 have := (h Fr w).out { tmps := vs.toArray ++ Array.replicate (fn.ntmps - vs.toArray.size) undef, defers := [] } w ⟨by simp [hn]; omega, rfl, hst, Ext.refl _ _, fun _ _ _ h => h, ?_⟩
 ·have h2 : Code.wpIn (fz none) 0 P c (bodyPostM (fz none) 0 P fn (EndR Fr (reg ah) w Φ)) { tmps := vs.toArray ++ Array.replicate (fn.ntmps - vs.toArray.size) undef, defers := [] } w := by simpa only [hnd] using this
  exact h2
 ·intro i v hi
  obtain ⟨_, hx⟩ := get_enumFrom args 0 i v hi
  obtain ⟨u, hu, hr⟩ := hrel.get i v (by simpa using hx)
  have : (vs.toArray ++ Array.replicate (fn.ntmps - vs.toArray.size) undef).getD i undef = u := by
   have hlt : i < vs.length := (List.getElem?_eq_some_iff.1 hu).1
   rw [Array.getD_eq_getD_getElem?, Array.getElem?_append_left (by simpa using hlt)]
   simp [hu]
  rw [this]; exact hr
section
variable {P : Program} {fn : Func} {n : Nat} {Fr R0 : Rg} {w0 : World} {Φ : AEnd → AH → Prop} {ks : List K} {af : AF} {ah : AH} {ds : List Deferred}
theorem leaveM {vs : List AV} {h ah' : AH} (hr : ResC P h af fn.results.toList vs) (hs : ah'.Sublist h) (hΦ : Φ (.ret (resv vs)) ah') : ∀ (Ds : List Nat) (a : Act) (w : World), Good (CofM P fn n Fr R0 w0 Φ) ds af (Ds.map dfO ++ h) a w → LeavesInM (fz none) 0 P fn a.tmps (EndR Fr R0 w0 Φ) (Ds.map mkD) .returning w
 | [], a, w, g => by
  obtain ⟨u, h1, h2⟩ := resultsC_run (P := P) g.fr g.st.rel hr
  have g' := g.sub hs
  exact ⟨u, h1, _, _, hΦ, ⟨u, rfl, h2.mv (Mv.same w fun b o h => h.elim .inl fun h => .inr (reg_sub hs h))⟩, g'.st, g'.ext, g'.old⟩
 | D :: Ds, a, w, g => by
  have hh : w.heap[D]? = some (.deferred (some [])) := g.st.rel (dfO D) (by simp)
  have g2 := g.setObj (i := 0) (b := D) (.deferred none) rfl (fun _ _ _ h => by cases h)
  have g3 := g2.sub (List.sublist_cons_self _ (Ds.map dfO ++ h))
  exact ⟨by simp, .inl ⟨D, _, rfl, run_takeDeferred hh, leaveM hr hs hΦ Ds a _ g3⟩⟩
theorem AW.retM (Ds : List Nat) {vs : List AV} {h ah' : AH} (hr : ResC P h af fn.results.toList vs) (hs : ah'.Sublist h) (hΦ : Φ (.ret (resv vs)) ah') : AW (CofM P fn n Fr R0 w0 Φ) (Ds.map mkD) (.c .ret :: ks) af (Ds.map dfO ++ h) := AW.ret fun a w g => by
 show LeavesInM _ _ _ _ _ _ a.defers _ _
 rw [g.defers]; exact leaveM hr hs hΦ Ds a w g
end
section
variable {C : Cx} {ds : List Deferred} {ks : List K} {af : AF} {ah : AH}
end
section
variable {P : Program} {af : AF} {ah : AH} {d : Option Tmp} {T : TypeId} {ps : String} {es : Array Edge} {gd : Option (Nat × Bool)}
theorem AOp.assign_nilS : AOp P ⟨d, .assign (.const (.slice none 0 0)), T, ps, es, gd⟩ af ah (D nilS ah) := AOp.of_pure fun S a w hf _ => ⟨.slice none 0 0, by simp [execOp]; rfl, by simp [nilS, RelC], by simp [nilS, Shape]⟩
theorem AOp.load_pair (i : Nat) {x : Operand} {b off : Nat} {xs : List AV} {v1 v2 : AV} {t : TypeId} (hx : aeval af x = some (.ref b off)) (hi : ah[i]? = some (.row b xs)) (h1 : xs[off]? = some v1) (h2 : xs[off + 1]? = some v2)
  (ht : tkind P t = some (true, 2)) (hz : v1.size = 1 ∧ v2.size = 1) : AOp P ⟨d, .load t x, T, ps, es, gd⟩ af ah (D (.st [v1, v2]) ah) :=
 AOp.of_pure fun S a w hf ho => by
  obtain ⟨cs, tt, hh, hr⟩ := ho _ (List.mem_of_getElem? hi)
  obtain ⟨c1, k1, k2⟩ := hr off v1 h1
  obtain ⟨c2, k3, k4⟩ := hr (off + 1) v2 h2
  have hrel : RelC S w (.st [v1, v2]) [c1, c2] := by
   simp only [RelC, RelCs]
   exact ⟨[c1], [c2], rfl, k2, [c2], [], rfl, k4, rfl⟩
  have hsz : (AV.st [v1, v2]).size = 2 := by simp [AV.size, AV.sizes, hz.1, hz.2]
  obtain ⟨u, h1, h2⟩ := run_loadVar (P := P) (w := w) (b := b) (o := off) (d := .st [v1, v2]) rfl (by rw [hsz]; exact ht) hrel (fun j v hv => by
   rw [cell_of_row w b _ cs tt (0, 0) hh]
   cases j with
   | zero => simp only [List.getElem?_cons_zero, Option.some.injEq] at hv; subst hv; exact k1
   | succ j =>
    cases j with
    | zero => simp at hv; subst hv; exact k3
    | succ j => simp at hv)
  exact ⟨u, by simp [execOp, (aeval_rel hf hx).ref, Instr.loadAt, Instr.sureAddr, h1], h2⟩
end
section
variable {N : List Nat} {C : Cx} {ds : List Deferred} {ks : List K} {ops : Array Oper} {af : AF} {aq ae : AH} {n : Nat} {rem : List Nat} {vs : List AV}
theorem AX2.three (i j k : Nat) (hr : readyL ops rem = [i, j, k]) (h : AX2S N C ds ks ops af aq n rem vs ae i) (h' : AX2S N C ds ks ops af aq n rem vs ae j) (h'' : AX2S N C ds ks ops af aq n rem vs ae k) : AX2 N C ds ks ops af aq (n + 1) rem vs ae :=
 AX2.next _ hr fun x hx => by
  simp only [List.mem_cons, List.not_mem_nil, or_false] at hx
  rcases hx with rfl | rfl | rfl <;> assumption
end
end Go.SX
