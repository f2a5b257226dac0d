/- The library of abstract walks, part 2. -/
import Derived.Test.YtlpndgodkkndnaaGreatDoorS1
import Derived.Test.YtlpndgodkkndnaaGreatDoorS1
import Derived.ProofKit
import Derived.OpenShut
import Derived.ShutString
import Derived.ChangeOld
import Derived.SizedLaws
import Derived.Deep.Slices
import Derived.Laws.OwnMore
import Derived.Defers
import Derived.Recover
import Derived.Laws.IdiomRangeMap
import Derived.Lib.AppendZerosOnto
namespace Go.SX
open Go.RowKit
set_option linter.unusedVariables false
set_option linter.unusedSimpArgs false
theorem bytes_beq (s t : ByteArray) : (s == t) = decide (s = t) := by
 have h : (s == t) = (s.data == t.data) := by cases s; cases t; rfl
 rw [h]
 by_cases h : s = t
 ·subst h; simp
 ·have : ¬ s.data = t.data := fun e => h (by cases s; cases t; simp_all)
  simp [h, this]
def keq : AV → AV → Bool
 | .str a, .str b => a == b
 | .int j a, .int k b => j == k && a == b
 | _, _ => false
def keyOK : TypeDesc → AV → Bool
 | .string, .str _ => true
 | .int j, .int k _ => j == k
 | _, _ => false
def keysOK (kd : TypeDesc) : List (AV × AV) → Bool
 | [] => true
 | p :: r => keyOK kd p.1 && keysOK kd r
def mfind (k : AV) : List (AV × AV) → Nat → Option (Nat × AV)
 | [], _ => none
 | (k', v) :: r, i => if keq k k' then some (i, v) else mfind k r (i + 1)
def mapTy (P : Program) (T : TypeId) : Option (TypeDesc × TypeId) := match P.underlying T with
 | some (.map k e) => (P.underlying k).map fun kd => (kd, e)
 | _ => none
theorem mapTy_parts {P : Program} {T e : TypeId} {kd : TypeDesc} (h : mapTy P T = some (kd, e)) : ∃ k, P.underlying T = some (.map k e) ∧ P.underlying k = some kd := by
 unfold mapTy at h
 split at h
 ·rename_i k e' hu
  cases hk : P.underlying k with
  | none => simp [hk] at h
  | some d =>
   simp only [hk, Option.map_some, Option.some.injEq, Prod.mk.injEq] at h
   obtain ⟨rfl, rfl⟩ := h
   exact ⟨k, hu, hk⟩
 ·cases h
theorem rel_pair {S : Rg} {w : World} {v : AV} {u : Value} {b : Bool} (h : Rel S w v u) : Rel S w (.tup [v, .bool b]) (.tuple #[u, .bool b]) := by
 refine ⟨?_, by simp [Shape]⟩
 simp only [RelC, Value.cells]
 refine ⟨[u, .bool b], rfl, ?_⟩
 simp only [RelVs]
 exact ⟨u, [.bool b], rfl, h.1, h.2, .bool b, [], rfl, by simp [RelC, Value.cells], by simp [Shape], rfl⟩
theorem run_checkKey {P : Program} {w : World} {k : TypeId} {kd : TypeDesc} (hk : P.underlying k = some kd) {x : AV} {u : Value} {S : Rg} (hx : Rel S w x u) (ho : keyOK kd x = true) (e : Bool) : (Instr.checkKey e 10000 k u).run P w = .ok () w := by
 have h : ∀ n : Nat, (Instr.checkKey e (n + 1) k u).run P w = .ok () w := fun n => by
  cases x <;> cases kd <;> simp only [keyOK] at ho <;> try cases ho
  ·rw [hx.int]; simp [Instr.checkKey, run_underlying hk]
  ·rw [hx.str]; simp [Instr.checkKey, run_underlying hk]
 exact h 9999
theorem sameNow_eq {S : Rg} {w : World} {kd : TypeDesc} {x y : AV} {u v : Value} (hx : Rel S w x u) (hy : Rel S w y v) (ox : keyOK kd x = true) (oy : keyOK kd y = true) : Instr.sameNow kd u v = some (keq x y) := by
 cases x <;> cases kd <;> simp only [keyOK] at ox <;> (try cases ox) <;> cases y <;> simp only [keyOK] at oy <;> try cases oy
 ·rw [hx.int, hy.int]
  simp only [beq_iff_eq] at ox oy
  subst ox; subst oy
  simp [Instr.sameNow, keq]
 ·rw [hx.str, hy.str]
  simp [Instr.sameNow, keq]
theorem findNow_eq {S : Rg} {w : World} {kd : TypeDesc} {x : AV} {u : Value} (hx : Rel S w x u) (ox : keyOK kd x = true) : ∀ (kv : List (AV × AV)) (es : List MapEntry) (i : Nat), es.length = kv.length → keysOK kd kv = true →
  (∀ (j : Nat) k v, kv[j]? = some (k, v) → ∃ e : MapEntry, es[j]? = some e ∧ Rel S w k e.key ∧ Rel S w v e.val) →
  (mfind x kv i = none → Instr.findNow kd u es i = some none) ∧ (∀ j v, mfind x kv i = some (j, v) → i ≤ j ∧ ∃ e : MapEntry, es[j - i]? = some e ∧ Rel S w v e.val ∧ Instr.findNow kd u es i = some (some (j, e.val)) ∧ ∃ k, kv[j - i]? = some (k, v) ∧ keq x k = true ∧ Rel S w k e.key)
 | [], es, i, hl, _, _ => by
  have : es = [] := List.eq_nil_of_length_eq_zero hl
  subst this
  exact ⟨fun _ => rfl, fun j v h => by simp [mfind] at h⟩
 | (k, v) :: kv, es, i, hl, ho, h => by
  match es, hl with
  | e :: es, hl =>
   simp only [keysOK, Bool.and_eq_true] at ho
   obtain ⟨e', he', h1, h2⟩ := h 0 k v rfl
   simp only [List.getElem?_cons_zero, Option.some.injEq] at he'
   subst he'
   have hs := sameNow_eq hx h1 ox ho.1
   obtain ⟨ih1, ih2⟩ := findNow_eq hx ox kv es (i + 1) (by simpa using hl) ho.2 (fun j k v hj => h (j + 1) k v (by simpa using hj))
   simp only [mfind, Instr.findNow, hs]
   cases hb : keq x k with
   | true =>
    refine ⟨fun h => by simp at h, fun j v' h => ?_⟩
    simp only [if_true, Option.some.injEq, Prod.mk.injEq] at h
    obtain ⟨rfl, rfl⟩ := h
    exact ⟨Nat.le_refl _, e, by simp, h2, rfl, k, by simp, hb, h1⟩
   | false =>
    simp only [Bool.false_eq_true, if_false]
    refine ⟨ih1, fun j v' h => ?_⟩
    obtain ⟨hle, e'', q1, q2, q3, k', q4, q5, q6⟩ := ih2 j v' h
    have e1 : j - i = (j - (i + 1)) + 1 := by omega
    exact ⟨by omega, e'', by rw [e1]; simpa using q1, q2, q3, k', by rw [e1]; simpa using q4, q5, q6⟩
theorem run_findKey {P : Program} {w : World} {k : TypeId} {kd : TypeDesc} (hk : P.underlying k = some kd) {u : Value} {es : List MapEntry} {r : Option (Nat × Value)} (h : Instr.findNow kd u es 0 = some r) : (Instr.findKey k u es).run P w = .ok r w := by
 simp [Instr.findKey, run_underlying hk, h]
def mset (kv : List (AV × AV)) (k v : AV) : List (AV × AV) := match mfind k kv 0 with | some (i, _) => kv.set i (k, v) | none => kv ++ [(k, v)]
def gset (kv : List (AV × AV)) (g : MG) (k : AV) : MG := match mfind k kv 0 with | some _ => g | none => ⟨g.bs ++ [g.clk], g.clk + 1⟩
section
variable {P : Program} {af : AF} {ah : AH}
variable {d : Option Tmp} {T : TypeId} {ps : String} {es : Array Edge} {gd : Option (Nat × Bool)}
theorem AOp.makeMap {t : TypeId} : AOp P ⟨d, .makeMap t none, T, ps, es, gd⟩ af ah (fun r h => ∃ b, r = .ret (.map b) ∧ h = .map b [] ⟨[], 0⟩ :: ah) := .mk fun Fr a w hst hf => by
 have hrun : (execOp a.eval ⟨d, .makeMap t none, T, ps, es, gd⟩).run P w = .ok (.value (.map (some w.heap.size))) (w.alloc (.map #[] 0)) := by
  simp [execOp, Instr.makeMap, newObj, Sem.run]
 rw [hrun]
 have hx' : Ext (fun _ _ => False) w (w.alloc (.map #[] 0)) := Ext.alloc _ _ _
 obtain ⟨k1, k2, k3⟩ := hst.cons (x := .map w.heap.size [] ⟨[], 0⟩) (b := w.heap.size) rfl (Nat.le_refl _) (by simp) hx' (fun m => ⟨#[], heap_alloc_new w _, by simp, by simp, by simp, by simp, by simp⟩)
 exact ⟨_, _, ⟨_, rfl, rfl⟩, ⟨_, rfl, mk_map⟩, k1, k2, k3⟩
theorem own_map {S : Rg} {w : World} {b : Nat} {kv : List (AV × AV)} {g : MG} (h : OwnRel S w (.map b kv g)) : ∃ es : Array MapEntry, w.heap[b]? = some (.map es g.clk) ∧ es.toList.map (·.born) = g.bs ∧ es.size = kv.length ∧
   (∀ (i : Nat) k v, kv[i]? = some (k, v) → ∃ e : MapEntry, es[i]? = some e ∧ Rel S w k e.key ∧ Rel S w v e.val) ∧ (∀ n ∈ g.bs, n < g.clk) ∧ g.bs.Nodup := h
theorem run_getObj_map {w : World} {b : Nat} {es : Array MapEntry} {c : Nat} (h : w.heap[b]? = some (.map es c)) : (getObj b).run P w = .ok (.map es c) w := by
 simp [getObj, Sem.run, h]
theorem AOp.lookup_hit {x y : Operand} {b i j : Nat} {kv : List (AV × AV)} {g : MG} {k v : AV} {t e : TypeId} {kd : TypeDesc} {ok : Bool} (hx : aeval af x = some (.map b)) (hi : ah[i]? = some (.map b kv g)) (hy : aeval af y = some k) (ht : mapTy P t = some (kd, e)) (ho : keyOK kd k = true) (hks : keysOK kd kv = true)
  (hf : mfind k kv 0 = some (j, v)) : AOp P ⟨d, .lookup t x y ok, T, ps, es, gd⟩ af ah (D (if ok then .tup [v, .bool true] else v) ah) := AOp.of_pure fun S a w hfr hown => by
 obtain ⟨kt, hu, hk⟩ := mapTy_parts ht
 obtain ⟨es, h1, _, h3, h4, _⟩ := own_map (hown _ (List.mem_of_getElem? hi))
 have hky := aeval_rel hfr hy
 obtain ⟨_, hfound⟩ := findNow_eq hky ho kv es.toList 0 (by simpa using h3) hks (fun j k v hj => by simpa using h4 j k v hj)
 obtain ⟨_, en, _, hv, hnow, _⟩ := hfound j v hf
 have hr := run_findKey (P := P) (w := w) hk hnow
 have hc := run_checkKey hk hky ho es.isEmpty
 have hrun : (execOp a.eval ⟨d, .lookup t x y ok, T, ps, ‹Array Edge›, gd⟩).run P w = .ok (.value (if ok then .tuple #[en.val, .bool true] else en.val)) w := by
  simp only [execOp, Instr.lookup, (aeval_rel hfr hx).map, Sem.run_bind, run_underlying hu, Result.andThen_ok, run_getObj_map h1, Sem.run_pure, hc, hr]
 rw [hrun]
 cases ok with
 | true => exact ⟨_, rfl, rel_pair hv⟩
 | false => exact ⟨_, rfl, by simpa using hv⟩
theorem AOp.lookup_miss (zv : Value) {x y : Operand} {b i : Nat} {kv : List (AV × AV)} {g : MG} {k : AV} {t e : TypeId} {kd : TypeDesc} {ok : Bool} (hx : aeval af x = some (.map b)) (hi : ah[i]? = some (.map b kv g)) (hy : aeval af y = some k) (ht : mapTy P t = some (kd, e)) (hz : (P.info? e).bind (·.zero) = some zv) (ho : keyOK kd k = true) (hks : keysOK kd kv = true)
  (hf : mfind k kv 0 = none) : AOp P ⟨d, .lookup t x y ok, T, ps, es, gd⟩ af ah (D (if ok then .tup [ofConst zv, .bool false] else ofConst zv) ah) := AOp.of_pure fun S a w hfr hown => by
 obtain ⟨kt, hu, hk⟩ := mapTy_parts ht
 obtain ⟨es, h1, _, h3, h4, _⟩ := own_map (hown _ (List.mem_of_getElem? hi))
 have hky := aeval_rel hfr hy
 obtain ⟨hmiss, _⟩ := findNow_eq hky ho kv es.toList 0 (by simpa using h3) hks (fun j k v hj => by simpa using h4 j k v hj)
 have hr := run_findKey (P := P) (w := w) hk (hmiss hf)
 have hc := run_checkKey hk hky ho es.isEmpty
 have hzero : (zeroValue e).run P w = .ok zv w := by
  cases hi' : P.info? e with
  | none => simp [hi'] at hz
  | some inf => simp only [hi', Option.bind_some] at hz; simp [zeroValue, typeInfo, hi', hz]
 have hrun : (execOp a.eval ⟨d, .lookup t x y ok, T, ps, ‹Array Edge›, gd⟩).run P w = .ok (.value (if ok then .tuple #[zv, .bool false] else zv)) w := by
  simp only [execOp, Instr.lookup, (aeval_rel hfr hx).map, Sem.run_bind, run_underlying hu, Result.andThen_ok, run_getObj_map h1, Sem.run_pure, hc, hr, hzero]
 rw [hrun]
 have hv := rel_const S w zv
 cases ok with
 | true => exact ⟨_, rfl, rel_pair hv⟩
 | false => exact ⟨_, rfl, by simpa using hv⟩
theorem AOp.lookup_nil (zv : Value) {x y : Operand} {k : AV} {t e : TypeId} {kd : TypeDesc} {ok : Bool} (hx : aeval af x = some (.val (.map none))) (hy : aeval af y = some k) (ht : mapTy P t = some (kd, e)) (hz : (P.info? e).bind (·.zero) = some zv) (ho : keyOK kd k = true) :
  AOp P ⟨d, .lookup t x y ok, T, ps, es, gd⟩ af ah (D (if ok then .tup [ofConst zv, .bool false] else ofConst zv) ah) := AOp.of_pure fun S a w hfr hown => by
 obtain ⟨kt, hu, hk⟩ := mapTy_parts ht
 have hky := aeval_rel hfr hy
 have hc := run_checkKey hk hky ho true
 have hr := run_findKey (P := P) (w := w) hk (u := a.eval y) (es := []) rfl
 have hzero : (zeroValue e).run P w = .ok zv w := by
  cases hi' : P.info? e with
  | none => simp [hi'] at hz
  | some inf => simp only [hi', Option.bind_some] at hz; simp [zeroValue, typeInfo, hi', hz]
 have hrun : (execOp a.eval ⟨d, .lookup t x y ok, T, ps, ‹Array Edge›, gd⟩).run P w = .ok (.value (if ok then .tuple #[zv, .bool false] else zv)) w := by
  have he : (#[] : Array MapEntry).isEmpty = true := rfl
  simp only [execOp, Instr.lookup, (aeval_rel hfr hx).val, Sem.run_bind, run_underlying hu, Result.andThen_ok, Sem.run_pure, he, hc, hr, hzero]
 rw [hrun]
 have hv := rel_const S w zv
 cases ok with
 | true => exact ⟨_, rfl, rel_pair hv⟩
 | false => exact ⟨_, rfl, by simpa using hv⟩
theorem heap_setObj {w : World} {b : Nat} {o o' : Obj} (h : w.heap[b]? = some o) : ({ w with heap := w.heap.setIfInBounds b o' } : World).heap[b]? = some o' := by
 have hlt : b < w.heap.size := (Array.getElem?_eq_some_iff.1 h).1
 simp [Array.getElem?_setIfInBounds, hlt]
theorem ext_setObj {w : World} {b : Nat} {es : Array MapEntry} {c : Nat} {o' : Obj} (h : w.heap[b]? = some (.map es c)) : Ext (fun b' _ => b' = b) w { w with heap := w.heap.setIfInBounds b o' } := by
 have hk : ∀ k, k ≠ b → (w.heap.setIfInBounds b o')[k]? = w.heap[k]? := fun k hk => by rw [Array.getElem?_setIfInBounds, if_neg (fun e => hk e.symm)]
 refine ⟨rfl, rfl, rfl, by simp, fun k _ hr => hk k (hr 0), fun a v hc hr => ?_⟩
 exact (World.cell?_of_block (w' := { w with heap := w.heap.setIfInBounds b o' }) (hk a.block hr)).trans hc
theorem sameBits_key {S : Rg} {w : World} {kd : TypeDesc} {x y : AV} {u v : Value} (hx : Rel S w x u) (hy : Rel S w y v) (ox : keyOK kd x = true) (h : keq x y = true) (n : Nat) : Instr.sameBits n v u = true := by
 cases x <;> cases kd <;> simp only [keyOK] at ox <;> (try cases ox) <;> cases y <;> simp only [keq] at h <;> try cases h
 ·rw [hx.int, hy.int]
  simp only [Bool.and_eq_true, beq_iff_eq] at h
  obtain ⟨rfl, rfl⟩ := h
  simp [Instr.sameBits]
 ·rw [hx.str, hy.str]
  rw [bytes_beq] at h
  have := of_decide_eq_true h
  subst this
  simp [Instr.sameBits, bytes_beq]
theorem run_mapUpdate {t e b : Nat} {kv : List (AV × AV)} {g : MG} {k v : AV} {kd : TypeDesc} {ku vu : Value} (ht : mapTy P t = some (kd, e)) (ho : keyOK kd k = true) (hks : keysOK kd kv = true) {Fr : Rg} {w : World} {i : Nat} (hst : St Fr ah w) (hi : ah[i]? = some (.map b kv g))
  (hk : Rel (Sof Fr ah) w k ku) (hv : Rel (Sof Fr ah) w v vu) : ∃ w', (Instr.mapUpdate t (.map (some b)) ku vu).run P w = .ok () w' ∧ St Fr (ah.set i (.map b (mset kv k v) (gset kv g k))) w' ∧ Ext (reg ah) w w' ∧ ∀ b' o, b' < w.heap.size → reg (ah.set i (.map b (mset kv k v) (gset kv g k))) b' o → reg ah b' o := by
 obtain ⟨kt, hu, hkt⟩ := mapTy_parts ht
 have him := List.mem_of_getElem? hi
 obtain ⟨es, h1, h2, h3, h4, h5, h6⟩ := own_map (hst.rel _ him)
 obtain ⟨hmiss, hfound⟩ := findNow_eq hk ho kv es.toList 0 (by simpa using h3) hks (fun j k v hj => by simpa using h4 j k v hj)
 have hc := run_checkKey hkt hk ho false
 have hblt := hst.lt _ him b rfl
 have hset : ∀ o', (setObj b o').run P w = .ok () { w with heap := w.heap.setIfInBounds b o' } := fun o' => by simp [setObj, Sem.run, h1]
 cases hm : mfind k kv 0 with
 | none =>
  have hr := run_findKey (P := P) (w := w) hkt (hmiss hm)
  refine ⟨{ w with heap := w.heap.setIfInBounds b (.map (es.push { key := ku, val := vu, born := g.clk }) (g.clk + 1)) }, ?_, ?_⟩
  ·simp only [Instr.mapUpdate, Sem.run_bind, run_underlying hu, Result.andThen_ok, run_getObj_map h1, hc, hr, hset]
  ·refine hst.update (x' := .map b (mset kv k v) (gset kv g k)) hi (ext_setObj h1) (fun _ h => .inl h) (fun _ _ _ h => h) (fun k' hk' => by simp only [Own.blk, Option.some.injEq] at hk'; subst hk'; simpa using hblt) fun m => ?_
   simp only [mset, gset, hm] at m ⊢
   refine ⟨_, heap_setObj h1, by simp [h2], by simp [h3], fun j k' v' hj => ?_, fun n hn => ?_, ?_⟩
   ·rcases Nat.lt_or_ge j kv.length with hlt | hge
    ·rw [List.getElem?_append_left hlt] at hj
     obtain ⟨en, he, q1, q2⟩ := h4 j k' v' hj
     exact ⟨en, by rw [Array.getElem?_push, if_neg (by omega)]; exact he, q1.mv m, q2.mv m⟩
    ·rw [List.getElem?_append_right hge] at hj
     have hj0 : j - kv.length = 0 := by
      have := (List.getElem?_eq_some_iff.1 hj).1
      simp at this; omega
     rw [hj0] at hj
     simp only [List.getElem?_cons_zero, Option.some.injEq, Prod.mk.injEq] at hj
     obtain ⟨rfl, rfl⟩ := hj
     exact ⟨_, by rw [Array.getElem?_push, if_pos (by omega)], hk.mv m, hv.mv m⟩
   ·rcases List.mem_append.1 hn with hn | hn
    ·have := h5 n hn; show n < g.clk + 1; omega
    ·simp only [List.mem_singleton] at hn; subst hn; show g.clk < g.clk + 1; omega
   ·rw [List.nodup_append]
    refine ⟨h6, by simp, fun x hx y hy => ?_⟩
    simp only [List.mem_singleton] at hy
    subst hy
    have := h5 x hx; omega
 | some p =>
  obtain ⟨j, v0⟩ := p
  obtain ⟨_, en, he, _, hnow, k', hkj, hkeq, hk'⟩ := hfound j v0 hm
  simp only [Nat.sub_zero] at he hkj
  have hr := run_findKey (P := P) (w := w) hkt hnow
  have he' : es[j]? = some en := by simpa using he
  have hst' : (Instr.keyThatStays en.key ku).run P w = .ok ku w := by simp [Instr.keyThatStays, sameBits_key hk hk' ho hkeq]
  refine ⟨{ w with heap := w.heap.setIfInBounds b (.map (es.modify j fun e => { e with key := ku, val := vu }) g.clk) }, ?_, ?_⟩
  ·simp only [Instr.mapUpdate, Sem.run_bind, run_underlying hu, Result.andThen_ok, run_getObj_map h1, hc, hr, he', Option.map_some, Option.getD_some, hst', hset]
  ·refine hst.update (x' := .map b (mset kv k v) (gset kv g k)) hi (ext_setObj h1) (fun _ h => .inl h) (fun _ _ _ h => h) (fun k' hk' => by simp only [Own.blk, Option.some.injEq] at hk'; subst hk'; simpa using hblt) fun m => ?_
   simp only [mset, gset, hm] at m ⊢
   refine ⟨_, heap_setObj h1, ?_, by simp [h3], fun l k'' v'' hl => ?_, h5, h6⟩
   ·rw [← h2]
    apply List.ext_getElem?
    intro l
    simp only [List.getElem?_map, Array.getElem?_toList, Array.getElem?_modify]
    by_cases e : j = l
    ·subst e; simp [he']
    ·rw [if_neg e]
   ·rw [Array.getElem?_modify]
    by_cases e : j = l
    ·subst e
     have hjl : j < kv.length := (List.getElem?_eq_some_iff.1 hkj).1
     rw [List.getElem?_set_self hjl] at hl
     simp only [Option.some.injEq, Prod.mk.injEq] at hl
     obtain ⟨rfl, rfl⟩ := hl
     rw [if_pos rfl, he']
     exact ⟨_, rfl, hk.mv m, hv.mv m⟩
    ·rw [List.getElem?_set_ne e] at hl
     obtain ⟨en', q0, q1, q2⟩ := h4 l k'' v'' hl
     rw [if_neg e]
     exact ⟨en', q0, q1.mv m, q2.mv m⟩
theorem AOp.mapUpdate {x y z : Operand} {b i : Nat} {kv : List (AV × AV)} {g : MG} {k v : AV} {t e : TypeId} {kd : TypeDesc} (hx : aeval af x = some (.map b)) (hi : ah[i]? = some (.map b kv g)) (hy : aeval af y = some k) (hz : aeval af z = some v) (ht : mapTy P t = some (kd, e)) (ho : keyOK kd k = true) (hks : keysOK kd kv = true) :
  AOp P ⟨d, .mapUpdate t x y z, T, ps, es, gd⟩ af ah (fun r h => (∃ u, r = .ret u) ∧ h = ah.set i (.map b (mset kv k v) (gset kv g k))) := .mk fun Fr a w hst hf => by
 obtain ⟨w', h1, h2, h3, h4⟩ := run_mapUpdate (P := P) ht ho hks hst hi (aeval_rel hf hy) (aeval_rel hf hz)
 have hrun : (execOp a.eval ⟨d, .mapUpdate t x y z, T, ps, es, gd⟩).run P w = .ok .skip w' := by
  simp only [execOp, (aeval_rel hf hx).map, Sem.run_bind, h1, Result.andThen_ok, Sem.run_pure]
 rw [hrun]
 exact ⟨.ret .any, _, ⟨⟨_, rfl⟩, rfl⟩, ⟨_, rfl, by simp [RelC, undef, Value.cells], by simp [Shape]⟩, h2, h3, h4⟩
theorem AOp.insert {x y z : Operand} {b i : Nat} {kv : List (AV × AV)} {g : MG} {k v : AV} {t e : TypeId} {kd : TypeDesc} (hx : aeval af x = some (.map b)) (hi : ah[i]? = some (.map b kv g)) (hy : aeval af y = some k) (hz : aeval af z = some v) (ht : mapTy P t = some (kd, e)) (ho : keyOK kd k = true) (hks : keysOK kd kv = true) :
  AOp P ⟨d, .insert t x y z, T, ps, es, gd⟩ af ah (fun r h => (∃ u, r = .ret u) ∧ h = ah.set i (.map b (mset kv k v) (gset kv g k))) := .mk fun Fr a w hst hf => by
 obtain ⟨w', h1, h2, h3, h4⟩ := run_mapUpdate (P := P) ht ho hks hst hi (aeval_rel hf hy) (aeval_rel hf hz)
 have hrun : (execOp a.eval ⟨d, .insert t x y z, T, ps, es, gd⟩).run P w = .ok .skip w' := by
  simp only [execOp, (aeval_rel hf hx).map, Sem.run_bind, h1, Result.andThen_ok, Sem.run_pure]
 rw [hrun]
 exact ⟨.ret .any, _, ⟨⟨_, rfl⟩, rfl⟩, ⟨_, rfl, by simp [RelC, undef, Value.cells], by simp [Shape]⟩, h2, h3, h4⟩
end
section
variable {C : Cx} {ds : List Deferred} {ks : List K} {af : AF} {ah : AH} {ops : Array Oper} {rest : List Oper}
theorem AL.makeMap {dd : Nat} {t T : TypeId} {ps : String} {es : Array Edge} (hn : Nat.blt dd C.n = true) (hk : ∀ b, AL C ds ks ops rest ((dd, .map b) :: af) (.map b [] ⟨[], 0⟩ :: ah)) : AL C ds ks ops (⟨some dd, .makeMap t none, T, ps, es, none⟩ :: rest) af ah :=
 AL.step rfl hn AOp.makeMap (by rintro _ _ ⟨b, e, rfl⟩; injection e with e; subst e; exact hk b) (by rintro _ _ ⟨b, e, _⟩; cases e)
theorem AL.mapUpdate {x y z : Operand} {b i : Nat} {kv : List (AV × AV)} {g : MG} {k v : AV} {t e T : TypeId} {kd : TypeDesc} {ps : String} {es : Array Edge} (hx : aeval af x = some (.map b)) (hi : ah[i]? = some (.map b kv g)) (hy : aeval af y = some k) (hz : aeval af z = some v) (ht : mapTy C.P t = some (kd, e)) (ho : keyOK kd k = true) (hks : keysOK kd kv = true)
  (hk : AL C ds ks ops rest af (ah.set i (.map b (mset kv k v) (gset kv g k)))) : AL C ds ks ops (⟨none, .mapUpdate t x y z, T, ps, es, none⟩ :: rest) af ah :=
 AL.step rfl rfl (AOp.mapUpdate hx hi hy hz ht ho hks) (by rintro _ _ ⟨⟨u, e⟩, rfl⟩; exact hk) (by rintro _ _ ⟨⟨u, e⟩, _⟩; cases e)
theorem AL.insert {x y z : Operand} {b i : Nat} {kv : List (AV × AV)} {g : MG} {k v : AV} {t e T : TypeId} {kd : TypeDesc} {ps : String} {es : Array Edge} (hx : aeval af x = some (.map b)) (hi : ah[i]? = some (.map b kv g)) (hy : aeval af y = some k) (hz : aeval af z = some v) (ht : mapTy C.P t = some (kd, e)) (ho : keyOK kd k = true) (hks : keysOK kd kv = true)
  (hk : AL C ds ks ops rest af (ah.set i (.map b (mset kv k v) (gset kv g k)))) : AL C ds ks ops (⟨none, .insert t x y z, T, ps, es, none⟩ :: rest) af ah :=
 AL.step rfl rfl (AOp.insert hx hi hy hz ht ho hks) (by rintro _ _ ⟨⟨u, e⟩, rfl⟩; exact hk) (by rintro _ _ ⟨⟨u, e⟩, _⟩; cases e)
end
structure GSym where
 Name : ByteArray
 Arity : Int
structure GRel where
 Name : ByteArray
 Arity : Int
 Tuples : List (List Int)
structure GStr where
 Size : Int
 Rels : List GRel
structure GLit where
 Kind : Int
 Neg : Bool
 Name : ByteArray
 At : List Int
structure GStmt where
 Kind : Int
 F : Int
 G : Int
 R : Int
 N : Int
 Name : ByteArray
 From : ByteArray
 Lit : GLit
 Regs : List Int
 Body : List GStmt
 Else : List GStmt
structure GCode where
 Flags : Int
 Regs : Int
 Arrays : List GSym
 Body : List GStmt
structure GFml where
 Kind : Int
 Arity : Int
 Name : ByteArray
 Vars : List ByteArray
 Args : List ByteArray
 Kids : List GFml
def iav (n : Int) : AV := .int .i64 n
def ints (l : List Int) : AV := .sl (l.map iav)
def strs (l : List ByteArray) : AV := .sl (l.map .str)
def bav (b : Bool) : AV := .bool b
def GSym.av (s : GSym) : AV := .st [.str s.Name, .int .i64 s.Arity]
def GRel.av (r : GRel) : AV := .st [.str r.Name, .int .i64 r.Arity, .sl (r.Tuples.map ints)]
def GStr.av (s : GStr) : AV := .st [.int .i64 s.Size, .sl (s.Rels.map GRel.av)]
def GLit.av (l : GLit) : AV := .st [.int .i64 l.Kind, .bool l.Neg, .str l.Name, ints l.At]
mutual
def GStmt.av : GStmt → AV
 | ⟨k, f, g, r, n, name, from_, lit, regs, body, els⟩ => .st [.int .i64 k, .int .i64 f, .int .i64 g, .int .i64 r, .int .i64 n, .str name, .str from_, lit.av, ints regs, .sl (GStmt.avs body), .sl (GStmt.avs els)]
def GStmt.avs : List GStmt → List AV
 | [] => []
 | s :: l => s.av :: GStmt.avs l
end
theorem GStmt.avs_eq : ∀ l : List GStmt, GStmt.avs l = l.map GStmt.av
 | [] => rfl
 | s :: l => by simp [GStmt.avs, GStmt.avs_eq l]
def GStmt.st (s : GStmt) : AV := .st [.int .i64 s.Kind, .int .i64 s.F, .int .i64 s.G, .int .i64 s.R, .int .i64 s.N, .str s.Name, .str s.From, s.Lit.av, ints s.Regs, .sl (s.Body.map GStmt.av), .sl (s.Else.map GStmt.av)]
theorem GStmt.av_eq (s : GStmt) : s.av = s.st := by cases s; simp [GStmt.av, GStmt.st, GStmt.avs_eq]
def GCode.av (c : GCode) : AV := .st [.int .i64 c.Flags, .int .i64 c.Regs, .sl (c.Arrays.map GSym.av), .sl (c.Body.map GStmt.av)]
mutual
def GFml.av : GFml → AV
 | ⟨k, a, name, vars, args, kids⟩ => .st [.int .i64 k, .int .i64 a, .str name, strs vars, strs args, .sl (GFml.avs kids)]
def GFml.avs : List GFml → List AV
 | [] => []
 | s :: l => s.av :: GFml.avs l
end
theorem GFml.avs_eq : ∀ l : List GFml, GFml.avs l = l.map GFml.av
 | [] => rfl
 | s :: l => by simp [GFml.avs, GFml.avs_eq l]
def GFml.st (f : GFml) : AV := .st [.int .i64 f.Kind, .int .i64 f.Arity, .str f.Name, strs f.Vars, strs f.Args, .sl (f.Kids.map GFml.av)]
theorem GFml.av_eq (f : GFml) : f.av = f.st := by cases f; simp [GFml.av, GFml.st, GFml.avs_eq]
theorem map_get {α : Type} {g : α → AV} {xs : List α} {k : Nat} {x : α} (h : xs[k]? = some x) : (xs.map g)[k]? = some (g x) := by simp [h]
theorem get_lt {α : Type} {xs : List α} {k : Nat} (h : k < xs.length) : ∃ x, xs[k]? = some x := ⟨xs[k], List.getElem?_eq_getElem h⟩
theorem drop_cons {α : Type} {l : List α} {k : Nat} {x : α} (h : l[k]? = some x) : l.drop k = x :: l.drop (k + 1) := by
 obtain ⟨hk, rfl⟩ := List.getElem?_eq_some_iff.1 h
 exact List.drop_eq_getElem_cons hk
theorem all_map {α : Type} {g : α → AV} {n : Nat} {xs : List α} (h : ∀ x, (g x).size = n) : ∀ y ∈ xs.map g, y.size = n := by
 intro y hy
 obtain ⟨x, _, rfl⟩ := List.mem_map.1 hy
 exact h x
theorem ok_map {α : Type} {g : α → AV} {xs : List α} (h : ∀ x, (g x).cellOK = true) : AV.cellsOK (xs.map g) = true := by
 induction xs with
 | nil => rfl
 | cons x xs ih => simp [AV.cellsOK, h x, ih]
theorem GStmt.size_av (s : GStmt) : s.av.size = 14 := by rw [GStmt.av_eq]; rfl
theorem GFml.size_av (s : GFml) : s.av.size = 6 := by rw [GFml.av_eq]; rfl
theorem GStmt.get {xs : List GStmt} {k : Nat} {x : GStmt} (h : xs[k]? = some x) : (xs.map GStmt.av)[k]? = some x.st := by simp [h, GStmt.av_eq]
theorem GFml.get {xs : List GFml} {k : Nat} {x : GFml} (h : xs[k]? = some x) : (xs.map GFml.av)[k]? = some x.st := by simp [h, GFml.av_eq]
def evCmp (op : BinOp) (m n : Int) : Option AV := match op with
 | .eql => some (.bool (m == n))
 | .neq => some (.bool (m != n))
 | .lss => some (.bool (decide (m < n)))
 | .leq => some (.bool (decide (m ≤ n)))
 | .gtr => some (.bool (decide (m > n)))
 | .geq => some (.bool (decide (m ≥ n)))
 | _ => none
def evStr (op : BinOp) (s t : ByteArray) : Option AV := match op with
 | .eql => some (.bool (s.toList == t.toList))
 | .neq => some (.bool (!(s.toList == t.toList)))
 | .lss => some (.bool (Op.bytesLess s.toList t.toList))
 | _ => none
def kindB : IntKind → IntKind → Bool
 | .i64, .i64 => true
 | .u8, .u8 => true
 | .i32, .i32 => true
 | .u64, .u64 => true
 | .u32, .u32 => true
 | _, _ => false
def evalOp (af : AF) : Op → Option AV
 | .move x => aeval af x
 | .assign x => aeval af x
 | .pick c x y => match aeval af c with
  | some (.bool true) => aeval af x
  | some (.bool false) => aeval af y
  | _ => none
 | .binOp op _ x y _ => match aeval af x, aeval af y with
  | some (.int k m), some (.int k' n) => bif kindB k k' then evCmp op m n else none
  | some (.str s), some (.str t) => evStr op s t
  | _, _ => none
 | .unOp .not _ x => match aeval af x with
  | some (.bool b) => some (.bool (!b))
  | _ => none
 | .extract x i => match aeval af x with
  | some (.tup vs) => vs[i]?
  | _ => none
 | .nilCheck x => match aeval af x with
  | some (.ref b o) => some (.ref b o)
  | some (.at v) => some (.at v)
  | _ => none
 | .makeFunc (.func f) fst xs => bif fst.isEmpty then (aevals af xs.toList).map (.fn f) else none
 | _ => none
theorem kindB_eq {k k' : IntKind} (h : kindB k k' = true) : k = k' := by cases k <;> cases k' <;> simp_all [kindB]
section
variable {P : Program} {af : AF} {ah : AH}
theorem AOp.ev {o : Oper} {v : AV} (h : evalOp af o.op = some v) : AOp P o af ah (D v ah) := by
 obtain ⟨d, op, T, ps, es, gd⟩ := o
 simp only at h
 cases op with
 | move x => exact AOp.move h
 | assign x => exact AOp.assign h
 | pick c x y =>
  simp only [evalOp] at h
  split at h
  ·rename_i hc; exact AOp.pick_true hc h
  ·rename_i hc; exact AOp.pick_false hc h
  ·cases h
 | binOp op xT x y yT =>
  simp only [evalOp] at h
  split at h
  ·rename_i k m k' n hx hy
   cases hk : kindB k k' with
   | false => rw [hk] at h; cases h
   | true =>
    rw [hk] at h
    obtain rfl := kindB_eq hk
    simp only [cond_true] at h
    cases op <;> simp only [evCmp] at h <;> cases h
    ·exact AOp.cmp hx hy rfl
    ·exact AOp.cmp hx hy rfl
    ·exact AOp.cmp hx hy rfl
    ·exact AOp.cmp hx hy rfl
    ·exact AOp.cmp hx hy rfl
    ·exact AOp.cmp hx hy rfl
  ·rename_i s t hx hy
   cases op <;> simp only [evStr] at h <;> cases h
   ·exact AOp.str_eq hx hy
   ·exact AOp.str_ne hx hy
   ·exact AOp.str_lt hx hy
  ·cases h
 | unOp op xT x =>
  cases op <;> simp only [evalOp] at h <;> try (first | cases h | skip)
  split at h
  ·rename_i b hx; injection h with h; subst h; exact AOp.not hx
  ·cases h
 | extract x i =>
  simp only [evalOp] at h
  split at h
  ·rename_i vs hx; exact AOp.extract hx h
  ·cases h
 | nilCheck x =>
  simp only [evalOp] at h
  split at h
  ·rename_i b o hx; injection h with h; subst h; exact AOp.nil_ref hx
  ·rename_i w hx; injection h with h; subst h; exact AOp.nil_at hx
  ·cases h
 | makeFunc fn fst xs =>
  cases fn with
  | func f =>
   simp only [evalOp] at h
   cases he : fst.isEmpty with
   | false => rw [he] at h; cases h
   | true =>
    rw [he] at h
    simp only [cond_true, Option.map_eq_some_iff] at h
    obtain ⟨vs, hx, rfl⟩ := h
    have : fst = #[] := by simpa using he
    subst this
    exact AOp.makeFunc hx
  | _ => simp [evalOp] at h
 | _ => simp [evalOp] at h
end
section
variable {C : Cx} {ds : List Deferred} {ks : List K} {af : AF} {ah : AH} {ops : Array Oper} {rest : List Oper}
theorem AL.ev {o : Oper} {v : AV} {d : Nat} (h : evalOp af o.op = some v) (hg : o.guard = none) (hd : o.dst = some d) (hn : Nat.blt d C.n = true) (hk : AL C ds ks ops rest ((d, v) :: af) ah) : AL C ds ks ops (o :: rest) af ah :=
 AL.det (AOp.ev h) hg hd hn hk
end
abbrev NoRg : Rg := fun _ _ => False
section
variable {H : Type} {enc : TypeId × Value → H} {P : Program} {w : World}
structure Rd {α : Type} (enc : TypeId × Value → H) (P : Program) (w : World) (N : Nat) (T : TypeId) (av : α → AV) (bd : α → Prop) : Prop where
  out : ∀ fuel, fuel ≤ N → ∀ cs x, DataW.trod enc P w 0 (fun _ => true) true fuel T cs = some x → (∀ n ∈ x.1.weights P T, n ≤ reachBytes) → ∃ a, RelC NoRg w (av a) cs ∧ bd a
theorem Rd.mono {α : Type} {N M : Nat} {T : TypeId} {av : α → AV} {bd : α → Prop} (h : Rd enc P w N T av bd) (hm : M ≤ N) : Rd enc P w M T av bd := ⟨fun f hf => h.out f (Nat.le_trans hf hm)⟩
theorem Rd.int {N : Nat} {T : TypeId} {k : IntKind} (ht : P.underlying T = some (.int k)) : Rd enc P w N T (fun n : Int => AV.int k n) (fun n => (Lit.int k n).wf = true) :=
  ⟨fun f _ cs x h _ => by obtain ⟨n, rfl, rfl, hw⟩ := DataW.trod_int ht h; exact ⟨n, by simp [RelC], hw⟩⟩
theorem Rd.bool {N : Nat} {T : TypeId} (ht : P.underlying T = some .bool) : Rd enc P w N T AV.bool (fun _ => True) :=
  ⟨fun f _ cs x h _ => by obtain ⟨n, rfl, rfl⟩ := DataW.trod_bool ht h; exact ⟨n, by simp [RelC], trivial⟩⟩
theorem Rd.str {N : Nat} {T : TypeId} (ht : P.underlying T = some .string) : Rd enc P w N T AV.str (fun s => s.size ≤ 140737488351232) :=
  ⟨fun f _ cs x h hw => by
    obtain ⟨s, rfl, rfl, _⟩ := DataW.trod_string ht h
    refine ⟨s, by simp [RelC], ?_⟩
    have := hw s.data.toList.length (by simp [DataW.weights])
    rw [Array.length_toList] at this
    exact this⟩
theorem weightsAll_mem {T : TypeId} : ∀ {l : List (DataW H)} {d : DataW H}, d ∈ l → ∀ n ∈ d.weights P T, n ∈ DataW.weightsAll P T l
  | [], d, h, n, hn => by cases h
  | x :: l, d, h, n, hn => by
    simp only [DataW.weightsAll, List.mem_append]
    rcases List.mem_cons.1 h with rfl | h
    · exact .inl hn
    · exact .inr (weightsAll_mem h n hn)
theorem weightsEach_mem : ∀ {ts : List TypeId} {l : List (DataW H)} {i : Nat} {t : TypeId} {d : DataW H}, ts[i]? = some t → l[i]? = some d → ∀ n ∈ d.weights P t, n ∈ DataW.weightsEach P ts l
  | [], l, i, t, d, ht, _, n, hn => by simp at ht
  | t :: ts, [], i, _, d, _, hd, n, hn => by simp at hd
  | t :: ts, x :: l, 0, t', d, ht, hd, n, hn => by
    simp at ht hd
    subst ht; subst hd
    simp only [DataW.weightsEach, List.mem_append]
    exact .inl hn
  | t :: ts, x :: l, i + 1, t', d, ht, hd, n, hn => by
    simp only [DataW.weightsEach, List.mem_append]
    exact .inr (weightsEach_mem (by simpa using ht) (by simpa using hd) n hn)
theorem rel_row_of {α : Type} {av : α → AV} {sz : Nat} : ∀ (xs : List α) (b o : Nat), (∀ (i : Nat) x, xs[i]? = some x → ∃ cs : List Value, cs.length = sz ∧ RelC NoRg w (av x) cs ∧ ∀ j u, cs[j]? = some u → w.cell? ⟨b, o + i * sz + j, none⟩ = some u) → RelRow NoRg w (xs.map av) sz b o
  | [], _, _, _ => by simp [RelRow]
  | x :: xs, b, o, h => by
    simp only [List.map_cons, RelRow]
    obtain ⟨cs, h1, h2, h3⟩ := h 0 x rfl
    refine ⟨⟨cs, h1, h2, fun j u hj => ⟨fun h => h, by simpa using h3 j u hj⟩⟩, rel_row_of xs b (o + sz) fun i y hy => ?_⟩
    obtain ⟨cs, h1, h2, h3⟩ := h (i + 1) y (by simpa using hy)
    refine ⟨cs, h1, h2, fun j u hj => ?_⟩
    have := h3 j u hj
    rwa [show o + (i + 1) * sz + j = o + sz + i * sz + j by rw [Nat.add_mul]; omega] at this
theorem exists_list {α : Type} {Q : Nat → α → Prop} : ∀ (n : Nat), (∀ i, i < n → ∃ x, Q i x) → ∃ xs : List α, xs.length = n ∧ ∀ (i : Nat) x, xs[i]? = some x → Q i x
  | 0, _ => ⟨[], rfl, by simp⟩
  | n + 1, h => by
    obtain ⟨xs, hl, hx⟩ := exists_list n fun i hi => h i (by omega)
    obtain ⟨x, hq⟩ := h n (by omega)
    refine ⟨xs ++ [x], by simp [hl], fun i y hy => ?_⟩
    by_cases hi : i < n
    · rw [List.getElem?_append_left (by omega)] at hy; exact hx i y hy
    · rw [List.getElem?_append_right (by omega)] at hy
      have h0 : i - xs.length = 0 := by
        rcases Nat.eq_zero_or_pos (i - xs.length) with h0 | h0
        · exact h0
        · rw [List.getElem?_eq_none (by simp; omega)] at hy; cases hy
      rw [h0] at hy
      have : i = n := by omega
      subst this
      simp at hy; subst hy; exact hq
theorem Rd.slice {α : Type} {N : Nat} {T e : TypeId} {av : α → AV} {bd : α → Prop} (ht : P.underlying T = some (.slice e)) (hpos : 0 < P.cellsOf e) (h : Rd enc P w N e av bd) :
    Rd enc P w (N + 1) T (fun xs : List α => AV.sl (xs.map av)) (fun xs => xs.length * P.bytesOf e ≤ 140737488351232 ∧ ∀ x ∈ xs, bd x) :=
  ⟨fun f hf cs x hx hw => by
    rcases DataW.trod_slice ht hx with ⟨rfl, rfl⟩ | ⟨a, len, cap, elems, rest, n, rfl, rfl, rfl, _, hl, hm, hlen, hel, _, _⟩
    · exact ⟨[], by simp only [List.map_nil, RelC]; exact ⟨none, 0, rfl, by simp, by simp [maxLen], by simp⟩, by simp⟩
    · obtain ⟨xs, hxl, hxs⟩ := exists_list (Q := fun i y => (∃ cs' : List Value, cs'.length = P.cellsOf e ∧ (∀ j u, cs'[j]? = some u → w.cell? ((a.add (i * P.cellsOf e)).add j) = some u) ∧ RelC NoRg w (av y) cs') ∧ bd y) len (by
        intro i hi
        have h1 := hel i hi
        have h2 : elems[i]? = some elems[i] := List.getElem?_eq_getElem (by omega)
        rw [h2] at h1
        obtain ⟨cs', hc, ht'⟩ := Option.bind_eq_some_iff.1 h1
        obtain ⟨_, hcl, hat⟩ := World.cells?_some hc
        obtain ⟨y, hr, hb⟩ := h.out n (by omega) cs' _ ht' (fun m hm' => hw m (by
          simp only [DataW.weights, ht, List.mem_cons, List.mem_append]
          exact .inr (.inl (weightsAll_mem (List.mem_map.2 ⟨_, List.getElem_mem (by omega), rfl⟩) m hm'))))
        refine ⟨y, ⟨cs', hcl, fun j u hj => ?_, hr⟩, hb⟩
        have hjl : j < P.cellsOf e := by rw [← hcl]; exact (List.getElem?_eq_some_iff.1 hj).1
        exact (hat j hjl).trans hj)
      have hwt : (elems.length + rest.length) * P.bytesOf e ≤ 140737488351232 := hw _ (by simp [DataW.weights, ht])
      refine ⟨xs, ?_, ?_, fun x hx' => ?_⟩
      · simp only [RelC, List.length_map, hxl]
        refine ⟨some a, cap, rfl, hl, hm, fun hne => ?_⟩
        have hsp : a.spot = none := by
          cases xs with
          | nil => simp at hne
          | cons x0 xs =>
            obtain ⟨⟨cs', h1, h2, _⟩, _⟩ := hxs 0 x0 rfl
            have hc0 := h2 0 cs'[0] (List.getElem?_eq_getElem (by omega))
            have := World.cell?_spot hc0
            simpa [Addr.add] using this
        obtain ⟨b, o, sp⟩ := a
        simp only at hsp
        subst hsp
        refine ⟨b, o, P.cellsOf e, rfl, rel_row_of xs b o fun i x hx' => ?_⟩
        obtain ⟨⟨cs', h1, h2, h3⟩, _⟩ := hxs i x hx'
        refine ⟨cs', h1, h3, fun j u hj => ?_⟩
        have h4 := h2 j u hj
        have h5 : ((Addr.mk b o none).add (i * P.cellsOf e)).add j = ⟨b, o + i * P.cellsOf e + j, none⟩ := by
          unfold Addr.add
          split <;> split <;> simp_all
        rw [← h5]; exact h4
      · rw [hxl, ← hlen]
        exact Nat.le_trans (Nat.mul_le_mul_right _ (by omega)) hwt
      · obtain ⟨i, hi⟩ := List.getElem?_of_mem hx'
        exact (hxs i x hi).2⟩
def RdQ (enc : TypeId × Value → H) (P : Program) (w : World) (N : Nat) (T : TypeId) (Q : AV → Prop) : Prop :=
  ∀ fuel, fuel ≤ N → ∀ cs x, DataW.trod enc P w 0 (fun _ => true) true fuel T cs = some x → (∀ n ∈ x.1.weights P T, n ≤ reachBytes) → ∃ v, RelC NoRg w v cs ∧ Q v
theorem Rd.q {α : Type} {N : Nat} {T : TypeId} {av : α → AV} {bd : α → Prop} (h : Rd enc P w N T av bd) : RdQ enc P w N T (fun v => ∃ a, v = av a ∧ bd a) :=
  fun f hf cs x hx hw => by obtain ⟨a, h1, h2⟩ := h.out f hf cs x hx hw; exact ⟨_, h1, a, rfl, h2⟩
theorem Rd.of_q {α : Type} {N : Nat} {T : TypeId} {av : α → AV} {bd : α → Prop} {Q : AV → Prop} (h : RdQ enc P w N T Q) (hq : ∀ v, Q v → ∃ a, v = av a ∧ bd a) : Rd enc P w N T av bd :=
  ⟨fun f hf cs x hx hw => by
    obtain ⟨v, h1, h2⟩ := h f hf cs x hx hw
    obtain ⟨a, rfl, h3⟩ := hq v h2
    exact ⟨a, h1, h3⟩⟩
def RdQs (enc : TypeId × Value → H) (P : Program) (w : World) (N : Nat) : List TypeId → List (AV → Prop) → Prop
  | [], [] => True
  | t :: ts, q :: qs => RdQ enc P w N t q ∧ RdQs enc P w N ts qs
  | _, _ => False
def QAll : List (AV → Prop) → List AV → Prop
  | [], [] => True
  | q :: qs, v :: vs => q v ∧ QAll qs vs
  | _, _ => False
def laidF (P : Program) : List Field → Nat → Nat → Bool
  | [], o, n => o == n
  | f :: fs, o, n => f.offset == o && laidF P fs (o + P.cellsOf f.type) n
theorem struct_aux {N n : Nat} (hn : n ≤ N) {cs : List Value} : ∀ (fs : List Field) (qs : List (AV → Prop)) (xs : List (DataW H × List MemPlace)) (o : Nat), RdQs enc P w N (fs.map (·.type)) qs → laidF P fs o cs.length = true → o ≤ cs.length → xs.length = fs.length →
    (∀ (i : Nat) (f : Field), fs[i]? = some f → DataW.trod enc P w 0 (fun _ => true) true n f.type ((cs.drop f.offset).take (P.cellsOf f.type)) = xs[i]?) →
    (∀ m ∈ DataW.weightsEach P (fs.map (·.type)) (xs.map (·.1)), m ≤ reachBytes) → ∃ vs, RelCs NoRg w vs (cs.drop o) ∧ QAll qs vs
  | [], [], xs, o, _, hl, ho, _, _, _ => by
    simp only [laidF, beq_iff_eq] at hl
    exact ⟨[], by simp [RelCs, hl], trivial⟩
  | [], _ :: _, _, _, h, _, _, _, _, _ => by simp [RdQs] at h
  | _ :: _, [], _, _, h, _, _, _, _, _ => by simp [RdQs] at h
  | f :: fs, q :: qs, [], o, _, _, _, hx, _, _ => by simp at hx
  | f :: fs, q :: qs, x :: xs, o, h, hl, ho, hx, hat, hw => by
    simp only [laidF, Bool.and_eq_true, beq_iff_eq] at hl
    simp only [List.map_cons, RdQs] at h
    have h0 := hat 0 f rfl
    rw [hl.1] at h0
    obtain ⟨v, hv, hq⟩ := h.1 n hn _ x (by simpa using h0) (fun m hm => hw m (by simp only [List.map_cons, DataW.weightsEach, List.mem_append]; exact .inl hm))
    have hle : o + P.cellsOf f.type ≤ cs.length := by
      have : ∀ (l : List Field) (a : Nat), laidF P l a cs.length = true → a ≤ cs.length := by
        intro l
        induction l with
        | nil => intro a h; simp [laidF] at h; omega
        | cons g l ih => intro a h; simp only [laidF, Bool.and_eq_true] at h; have := ih _ h.2; omega
      exact this _ _ hl.2
    obtain ⟨vs, hvs, hqs⟩ := struct_aux hn fs qs xs (o + P.cellsOf f.type) h.2 hl.2 hle (by simpa using hx) (fun i g hg => by simpa using hat (i + 1) g (by simpa using hg)) (fun m hm => hw m (by simp only [List.map_cons, DataW.weightsEach, List.mem_append]; exact .inr hm))
    refine ⟨v :: vs, ?_, hq, hqs⟩
    simp only [RelCs]
    refine ⟨_, _, ?_, hv, hvs⟩
    rw [← List.drop_drop]
    exact (List.take_append_drop _ _).symm
theorem RdQ.struct {N : Nat} {T : TypeId} {fs : Array Field} {qs : List (AV → Prop)} (ht : P.underlying T = some (.struct fs)) (hl : laidF P fs.toList 0 (P.cellsOf T) = true) (h : RdQs enc P w N (fs.toList.map (·.type)) qs) :
    RdQ enc P w (N + 1) T (fun v => ∃ vs, v = .st vs ∧ QAll qs vs) :=
  fun f hf cs x hx hw => by
    obtain ⟨xs, n, rfl, rfl, hcl, hxl, hat⟩ := DataW.trod_struct ht hx
    obtain ⟨vs, h1, h2⟩ := struct_aux (n := n) (by omega) fs.toList qs xs 0 h (by rw [hcl]; exact hl) (by omega) (by simpa using hxl) (fun i f hf => hat i f (by simpa using hf)) (fun m hm => hw m (by simpa [DataW.weights, ht] using hm))
    exact ⟨.st vs, by simp only [RelC]; simpa using h1, vs, rfl, h2⟩
def isInt (P : Program) (T : TypeId) (k : IntKind) : Bool := match P.underlying T with | some (.int k') => k' == k | _ => false
def isBool (P : Program) (T : TypeId) : Bool := match P.underlying T with | some .bool => true | _ => false
def isStr (P : Program) (T : TypeId) : Bool := match P.underlying T with | some .string => true | _ => false
def isSlice (P : Program) (T e : TypeId) (n : Nat) : Bool := match P.underlying T with | some (.slice x) => x == e && decide (0 < P.cellsOf e) && P.bytesOf e == n | _ => false
def isStruct (P : Program) (T : TypeId) (ts : List TypeId) : Bool := match P.underlying T with | some (.struct fs) => laidF P fs.toList 0 (P.cellsOf T) && fs.toList.map (·.type) == ts | _ => false
theorem isInt_eq {T : TypeId} {k : IntKind} (h : isInt P T k = true) : P.underlying T = some (.int k) := by
  unfold isInt at h; split at h <;> simp_all
theorem isBool_eq {T : TypeId} (h : isBool P T = true) : P.underlying T = some .bool := by
  unfold isBool at h; split at h <;> simp_all
theorem isStr_eq {T : TypeId} (h : isStr P T = true) : P.underlying T = some .string := by
  unfold isStr at h; split at h <;> simp_all
theorem isSlice_eq {T e : TypeId} {n : Nat} (h : isSlice P T e n = true) : P.underlying T = some (.slice e) ∧ 0 < P.cellsOf e ∧ P.bytesOf e = n := by
  unfold isSlice at h; split at h <;> simp_all
theorem Rd.int' {N : Nat} {T : TypeId} {k : IntKind} (ht : isInt P T k = true) : Rd enc P w N T (fun n : Int => AV.int k n) (fun n => (Lit.int k n).wf = true) := Rd.int (isInt_eq ht)
theorem Rd.str' {N : Nat} {T : TypeId} (ht : isStr P T = true) : Rd enc P w N T AV.str (fun s => s.size ≤ 140737488351232) := Rd.str (isStr_eq ht)
theorem Rd.slice' {α : Type} {N : Nat} {T e : TypeId} {n : Nat} {av : α → AV} {bd : α → Prop} (ht : isSlice P T e n = true) (h : Rd enc P w N e av bd) :
    Rd enc P w N T (fun xs : List α => AV.sl (xs.map av)) (fun xs => xs.length * n ≤ 140737488351232 ∧ ∀ x ∈ xs, bd x) := by
  obtain ⟨h1, h2, rfl⟩ := isSlice_eq ht
  exact (Rd.slice h1 h2 h).mono (Nat.le_succ N)
theorem RdQ.struct' {N : Nat} {T : TypeId} {ts : List TypeId} {qs : List (AV → Prop)} (ht : isStruct P T ts = true) (h : RdQs enc P w N ts qs) :
    RdQ enc P w (N + 1) T (fun v => ∃ vs, v = .st vs ∧ QAll qs vs) := by
  unfold isStruct at ht
  split at ht
  · rename_i fs hfs
    simp only [Bool.and_eq_true, beq_iff_eq] at ht
    obtain ⟨h1, rfl⟩ := ht
    exact RdQ.struct hfs h1 h
  · simp at ht
theorem Rd.zero {α : Type} {T : TypeId} {av : α → AV} {bd : α → Prop} : Rd enc P w 0 T av bd :=
  ⟨fun f hf cs x hx _ => by obtain rfl : f = 0 := by omega
                            simp [DataW.trod] at hx⟩
theorem Rd.all {α : Type} {T : TypeId} {av : α → AV} {bd : α → Prop} (h0 : ∀ N, Rd enc P w N T av bd → Rd enc P w (N + 1) T av bd) : ∀ N, Rd enc P w N T av bd
  | 0 => Rd.zero
  | N + 1 => h0 N (Rd.all h0 N)
theorem Rd.of_succ {α : Type} {T : TypeId} {av : α → AV} {bd : α → Prop} (h : ∀ N, Rd enc P w (N + 1) T av bd) (N : Nat) : Rd enc P w N T av bd := (h N).mono (Nat.le_succ N)
theorem RdQs.nil {N : Nat} : RdQs enc P w N [] [] := trivial
theorem RdQs.cons {N : Nat} {t : TypeId} {ts : List TypeId} {q : AV → Prop} {qs : List (AV → Prop)} (h : RdQ enc P w N t q) (hs : RdQs enc P w N ts qs) : RdQs enc P w N (t :: ts) (q :: qs) := ⟨h, hs⟩
theorem Rd.arg {α : Type} {T : TypeId} {av : α → AV} {bd : α → Prop} {v : Value} {d : DataW H} {p : List MemPlace} (h : ∀ N, Rd enc P w N T av bd) (ht : DataW.Trod enc P w 0 (fun _ => true) true T v d p) (hw : ∀ n ∈ d.weights P T, n ≤ reachBytes)
    (hs : ∀ a, Shape (av a) v) : ∃ a, Rel NoRg w (av a) v ∧ bd a := by
  obtain ⟨m, hm⟩ := ht
  obtain ⟨a, h1, h2⟩ := (h m).out m (Nat.le_refl m) _ _ hm hw
  exact ⟨a, ⟨h1, hs a⟩, h2⟩
theorem weights_of {ts : List TypeId} {l : List (DataW H)} (h : (DataW.weightsEach P ts l).all (· ≤ reachBytes) = true) {i : Nat} {t : TypeId} {d : DataW H} (ht : ts[i]? = some t) (hd : l[i]? = some d) : ∀ n ∈ d.weights P t, n ≤ reachBytes := by
  intro n hn
  have := List.all_eq_true.1 h n (weightsEach_mem ht hd n hn)
  simpa using this
theorem agg_of {T : TypeId} {ts : List TypeId} {r : Reach} {base : Nat} {v : Value} (hs : isStruct P T ts = true) (h : Value.okWide P w r base T v) : ∃ cs, v = .agg cs := by
  unfold isStruct at hs
  split at hs
  · rename_i fs hfs
    obtain ⟨cs, h1, _⟩ := Go.WideShapes.okWide_struct hfs h
    exact ⟨cs, h1⟩
  · simp at hs
theorem St.void (w : World) : St NoRg [] w := ⟨List.nodup_nil, (by intro o h; cases h), (by intro o h; cases h), (fun _ _ h => h.elim), (by intro o h; cases h)⟩
theorem Tri.calls {f : FuncId} {args : List AV} {vs : List Value} (h : Tri P f args [] (D (.bool true) [])) (hr : RelVs NoRg w args vs) :
    Calls P f vs.toArray w (fun e W' => e = .returned (.bool true) ∧ Below w.heap.size w W') := by
  have hno : ∀ b o, ¬ reg [] b o := fun b o h => by obtain ⟨x, hx, _⟩ := h; cases hx
  refine (h.2 NoRg w vs (St.void w) (RelVs.mv (fun a v h _ => ⟨h, fun hh => ?_⟩) _ _ hr)).mono fun e W' he => ?_
  · rcases hh with hh | hh
    · exact hh
    · exact hno _ _ hh
  · obtain ⟨x, ah, ⟨rfl, rfl⟩, hrel, hst, hext, _⟩ := he
    obtain ⟨v, rfl, hv⟩ := hrel
    refine ⟨?_, (hext.mono fun b o h => (hno b o h).elim).below⟩
    obtain ⟨hc, hsh⟩ := hv
    simp only [RelC] at hc
    cases v <;> simp [Value.cells] at hc <;> simp_all [Shape]
end
def iOk (n : Int) : Prop := (Lit.int .i64 n).wf = true
def strOk (s : ByteArray) : Prop := s.size ≤ 140737488351232
def lenOk {α : Type} (n : Nat) (bd : α → Prop) (xs : List α) : Prop := xs.length * n ≤ 140737488351232 ∧ ∀ x ∈ xs, bd x
def GSym.Ok (s : GSym) : Prop := strOk s.Name ∧ iOk s.Arity
def GRel.Ok (r : GRel) : Prop := strOk r.Name ∧ iOk r.Arity ∧ lenOk 24 (lenOk 8 iOk) r.Tuples
def GStr.Ok (s : GStr) : Prop := iOk s.Size ∧ lenOk 48 GRel.Ok s.Rels
def GLit.Ok (l : GLit) : Prop := iOk l.Kind ∧ strOk l.Name ∧ lenOk 8 iOk l.At
inductive GStmt.Ok : GStmt → Prop
  | mk {s : GStmt} (h : iOk s.Kind ∧ iOk s.F ∧ iOk s.G ∧ iOk s.R ∧ iOk s.N ∧ strOk s.Name ∧ strOk s.From ∧ s.Lit.Ok ∧ lenOk 8 iOk s.Regs) (hb : s.Body.length * 200 ≤ 140737488351232) (hb' : ∀ x ∈ s.Body, Ok x) (he : s.Else.length * 200 ≤ 140737488351232) (he' : ∀ x ∈ s.Else, Ok x) : Ok s
def GCode.Ok (c : GCode) : Prop := iOk c.Flags ∧ iOk c.Regs ∧ lenOk 24 GSym.Ok c.Arrays ∧ lenOk 200 GStmt.Ok c.Body
inductive GFml.Ok : GFml → Prop
  | mk {f : GFml} (h : iOk f.Kind ∧ iOk f.Arity ∧ strOk f.Name ∧ lenOk 16 strOk f.Vars ∧ lenOk 16 strOk f.Args) (hk : f.Kids.length * 104 ≤ 140737488351232) (hk' : ∀ x ∈ f.Kids, Ok x) : Ok f
theorem QAll.un {q : AV → Prop} {qs : List (AV → Prop)} {vs : List AV} (h : QAll (q :: qs) vs) : ∃ v us, vs = v :: us ∧ q v ∧ QAll qs us := by
  cases vs with
  | nil => exact h.elim
  | cons v us => exact ⟨v, us, rfl, h.1, h.2⟩
theorem QAll.un0 {vs : List AV} (h : QAll [] vs) : vs = [] := by
  cases vs with
  | nil => rfl
  | cons v us => exact h.elim
theorem Out.mono {P : Program} {o : Oper} {N M : Ending → World → Prop} (h : ∀ e w, N e w → M e w) : ∀ {r : Result Next}, Out P o N r → Out P o M r
 | .ok (.value v) w, k => h _ _ k
 | .ok .skip w, k => h _ _ k
 | .ok (.enter f args) w, k => Calls.mono k h
 | .ok (.round l f tmps x y) w, k => ⟨k.1, RoundIn.mono k.2 h⟩
 | .halt (.panic v) w, k => h _ _ k
theorem Sof_perm {Fr : Rg} {a b : AH} (h : a.Perm b) : Sof Fr a = Sof Fr b := by
 funext x y
 exact propext ⟨fun k => k.elim .inl fun k => .inr ((reg_perm h).1 k), fun k => k.elim .inl fun k => .inr ((reg_perm h).2 k)⟩
theorem EndR.reperm {Fr R0 : Rg} {w0 : World} {Φ Ψ : AEnd → AH → Prop} (h : ∀ x a, Φ x a → ∃ b, Ψ x b ∧ a.Perm b) {e : Ending} {w : World} (k : EndR Fr R0 w0 Φ e w) : EndR Fr R0 w0 Ψ e w := by
 obtain ⟨x, a, h1, h2, h3, h4, h5⟩ := k
 obtain ⟨b, h6, hp⟩ := h x a h1
 exact ⟨x, b, h6, by rw [← Sof_perm hp]; exact h2, h3.perm hp, h4, fun k o hk hr => h5 k o hk ((reg_perm hp).2 hr)⟩
theorem AOp.frameL {P : Program} {o : Oper} {af : AF} {a : AH} {Φ : AEnd → AH → Prop} (h : AOp P o af a Φ) (b : AH) : AOp P o af (a ++ b) (fun x h => ∃ h1, Φ x h1 ∧ h = h1 ++ b) :=
 ⟨fun Fr ac w hst hrel => (h.out (Sof Fr b) ac w hst.part (by rw [sof_part]; exact hrel)).mono fun e w' he => EndR.frame hst he⟩
theorem AOp.perm {P : Program} {o : Oper} {af : AF} {a a' : AH} {Φ : AEnd → AH → Prop} (h : AOp P o af a Φ) (hp : a.Perm a') : AOp P o af a' Φ :=
 ⟨fun Fr ac w hst hrel => (h.out Fr ac w (hst.perm hp.symm) (by rw [Sof_perm hp]; exact hrel)).mono fun e w' he => he.perm fun b o => reg_perm hp⟩
theorem AOp.reperm {P : Program} {o : Oper} {af : AF} {a : AH} {Φ Ψ : AEnd → AH → Prop} (h : AOp P o af a Φ) (hp : ∀ x a, Φ x a → ∃ b, Ψ x b ∧ a.Perm b) : AOp P o af a Ψ :=
 ⟨fun Fr ac w hst hrel => (h.out Fr ac w hst hrel).mono fun e w' he => he.reperm hp⟩
theorem AOp.frameR {P : Program} {o : Oper} {af : AF} {b : AH} {v : AV} (h : AOp P o af b (D v b)) (a : AH) : AOp P o af (a ++ b) (D v (a ++ b)) :=
 ((h.frameL a).perm List.perm_append_comm).reperm fun x h ⟨h1, ⟨e1, e2⟩, e3⟩ => by subst e1 e2 e3; exact ⟨_, ⟨rfl, rfl⟩, List.perm_append_comm⟩
theorem AW.perm {C : Cx} {ds : List Deferred} {ks : List K} {af : AF} {a b : AH} (hp : a.Perm b) (h : AW C ds ks af b) : AW C ds ks af a := .mk fun ac w g =>
 h.out ac w { g with st := g.st.perm hp, old := fun b o hb hr => g.old b o hb ((reg_perm hp).2 hr), fr := by rw [← Sof_perm hp]; exact g.fr }
theorem AL.perm {C : Cx} {ds : List Deferred} {ks : List K} {ops : Array Oper} {rest : List Oper} {af : AF} {a b : AH} (hp : a.Perm b) (h : AL C ds ks ops rest af b) : AL C ds ks ops rest af a := .mk fun ac w g =>
 h.out ac w { g with st := g.st.perm hp, old := fun b o hb hr => g.old b o hb ((reg_perm hp).2 hr), fr := by rw [← Sof_perm hp]; exact g.fr }
theorem QStep.frame {P : Program} {ops : Array Oper} {o : Oper} {af : AF} {v : AV} {b : AH} (h : QStep P ops b o af v) (a : AH) : QStep P ops (a ++ b) o af v :=
 h.elim (fun ⟨h1, h2⟩ => .inl ⟨h1, h2.frameR a⟩) .inr
theorem getD_set_ne {α : Type} {l : List α} {i j : Nat} {v d : α} (h : i ≠ j) : (l.set i v).getD j d = l.getD j d := by
 simp [List.getD_eq_getElem?_getD, List.getElem?_set_ne h]
theorem frameOf_congr {ops : Array Oper} {vs us : List AV} {af : AF} : ∀ {l : List Nat}, (∀ x ∈ l, vs.getD x .any = us.getD x .any) → frameOf ops vs af l = frameOf ops us af l
 | [], _ => rfl
 | x :: l, h => by simp only [frameOf]; rw [h x (by simp), frameOf_congr fun y hy => h y (List.mem_cons_of_mem _ hy)]
section
variable {C : Cx} {ds : List Deferred} {ks : List K} {af : AF} {ah : AH}
theorem heavy_one {ops : Array Oper} {i : Nat} {o : Oper} {a : Act} {w : World} {af0 af1 : AF} {Φ : AEnd → AH → Prop} {K : Act → World → Prop} (g : Good C ds af1 ah a w) (ho : ops[i]? = some o) (hd : okDst o.dst C.n = true)
  (hdt : ∀ t, t ∈ (match o.guard with | some (g, _) => (dstOf ops g).toList | none => []) → Nat.blt t C.n = true)
  (hk : keep (oslots ops o) af0 = keep (oslots ops o) af1) (hq : gdo ops (keep (oslots ops o) af0) o = some true ∧ AOp C.P o (keep (oslots ops o) af0) ah Φ)
  (hK : ∀ v h a w, Φ (.ret v) h → Good C ds (put af1 o.dst v) h a w → K a w) (hP : ∀ v h, Φ (.pan v) h → APan C ds v h) : wpOpIn (fz C.ro) 0 C.P ops (hnd C.P C.ro C.R ks) i K a w := by
 have gk : AFRel (Sof C.Fr ah) w (keep (oslots ops o) af0) a := fun j u hj => g.fr j u (get_keep (hk ▸ hj))
 have hy : Region.wanted o (yielded ops a.tmps) = true := by
  have hb := hq.1
  unfold gdo at hb
  unfold Region.wanted
  cases hg : o.guard with
  | none => rfl
  | some p =>
   obtain ⟨gi, want⟩ := p
   simp only [hg] at hb
   split at hb
   ·rename_i t ht
    split at hb
    ·rename_i c hc
     have hyy := yielded_of (C := C) (ops := ops) (g := gi) gk g.size ht (hdt t (by simp [hg, ht])) hc
     simp only [Option.some.injEq] at hb
     simp only [hyy]
     revert hb
     cases c <;> cases want <;> simp
    ·simp at hb
    ·cases hb
   ·cases hb
 unfold wpOpIn
 simp only [ho]
 rw [if_pos hy]
 have hN : ∀ e w', EndR C.Fr (reg ah) w Φ e w' → (∃ u, e = .returned u ∧ K (a.put o.dst u) w') ∨ (∃ u, e = .panicked [{ v := u, recovered := false }] ∧ hnd C.P C.ro C.R ks (.panic [{ v := u, recovered := false }]) a w') := by
  rintro e w' ⟨x, ah', hΦ, he, hst, hx, hn⟩
  cases x with
  | ret v =>
   obtain ⟨u, rfl, hr⟩ := he
   exact .inl ⟨u, rfl, hK _ _ _ _ hΦ (g.next hd hr hst hx hn)⟩
  | pan v =>
   obtain ⟨u, rfl, hr⟩ := he
   refine .inr ⟨u, rfl, ?_⟩
   rw [hnd_panic]
   have g' := g.next (d := none) rfl hr hst hx hn
   exact (hP v ah' hΦ).out a w' u { g' with fr := fun i v hi => by simp [get] at hi } hr
 have hr := hq.2.out C.Fr a w g.st gk
 unfold Oper.wpIn
 refine ⟨fun _ _ => trivial, ?_⟩
 rw [semAt_run (fun d w' e => by rw [e] at hr; exact hr)]
 generalize (execOp a.eval o).run C.P w = r at hr ⊢
 cases r with
 | ok nx w' =>
  cases nx <;> simp only [Out] at hr <;> simp only [Oper.uponIn]
  case value v =>
   rcases hN _ _ hr with ⟨u, e, hu⟩ | ⟨u, e, _⟩
   ·injection e with e; subst e; exact hu
   ·cases e
  case skip =>
   rcases hN _ _ hr with ⟨u, e, hu⟩ | ⟨u, e, _⟩
   ·injection e with e; subst e; exact hu
   ·cases e
  case enter f args =>
   refine ⟨fz_depth, callsFz (hr.mono fun e w'' he => ?_)⟩
   rcases hN _ _ he with ⟨u, rfl, hu⟩ | ⟨u, rfl, hu⟩
   ·exact hu
   ·exact hu
  case round l f tmps x y =>
   refine ⟨fz_depth, roundFz (hr.2.mono fun e w'' he => ?_)⟩
   rcases hN _ _ he with ⟨u, rfl, hu⟩ | ⟨u, rfl, hu⟩
   ·exact hu
   ·exact hu
 | halt x w' =>
  cases x <;> simp only [Out] at hr <;> simp only [Oper.uponIn]
  case panic v =>
   rcases hN _ _ hr with ⟨u, e, hu⟩ | ⟨u, e, hu⟩
   ·cases e
   ·injection e with e; injection e with e; injection e with e; subst e; exact hu
def AX (C : Cx) (ds : List Deferred) (ks : List K) (ops : Array Oper) (af : AF) (aq : AH) : Nat → List Nat → List AV → AH → Prop
 | 0, _, vs, ae => AW C ds ks (frameOf ops vs af (down ops.size)) (ae ++ aq)
 | n + 1, rem, vs, ae => ∀ i ∈ rem, (∀ j ∈ rem, clB ops ops.size i j = false) → ∃ o, ops[i]? = some o ∧
   ((gdo ops (keep (oslots ops o) (frameOf ops vs af (down i))) o = some false ∧ AX C ds ks ops af aq n (rem.erase i) (vs.set i (.tup [])) ae) ∨
    (gdo ops (keep (oslots ops o) (frameOf ops vs af (down i))) o = some true ∧ ∃ Φ : AEnd → AH → Prop, AOp C.P o (keep (oslots ops o) (frameOf ops vs af (down i))) ae Φ ∧
     (∀ v h, Φ (.ret v) h → AX C ds ks ops af aq n (rem.erase i) (vs.set i v) h) ∧ (∀ v h, Φ (.pan v) h → APan C ds v (h ++ aq))))
def quietOK (ops : Array Oper) (E : List Nat) : Bool :=
 (List.range ops.size).all fun x => memN x E || (match ops[x]? with
  | some o => (oslots ops o).all fun s => match wr ops s (down x) with | some y => !memN y E | none => true
  | none => true)
def earlyB (ops : Array Oper) (E : List Nat) (x : Nat) : Bool := E.all fun e => clB ops ops.size e x
theorem AW.explore_core {ops : Array Oper} {id : Nat} {E : List Nat} {vs0 : List AV} {ae0 aq : AH} (hm : C.P.follows .mixedOrders = true) (hd : drawOK ops = true) (hn : ops.toList.all (fun o => okDst o.dst C.n) = true) (hqo : quietOK ops E = true) (hEn : E.Nodup) (hEl : ∀ e ∈ E, e < ops.size)
  (hvl : vs0.length = ops.size)
  (hq : ∀ x o v, memN x E = false → ops[x]? = some o → vs0[x]? = some v → QStep C.P ops aq o (frameOf ops vs0 af (down x)) v ∨ (earlyB ops E x = true ∧ QStep C.P ops (ae0 ++ aq) o (frameOf ops vs0 af (down x)) v))
  (hx : AX C ds ks ops af aq E.length E vs0 ae0) : AW C ds (.c (.region id ops true) :: ks) af (ae0 ++ aq) := .mk fun a w g => by
 simp only [hnd]
 refine wpIn_region_any hm ?_
 have hgt : ∀ (i : Nat) (o : Oper), ops[i]? = some o → ∀ t, t ∈ (match o.guard with | some (g, _) => (dstOf ops g).toList | none => []) → Nat.blt t C.n = true := by
  intro i o ho t ht
  cases hg : o.guard with
  | none => simp [hg] at ht
  | some p =>
   simp only [hg, Option.mem_toList, Option.mem_def] at ht
   unfold dstOf at ht
   cases hp : ops[p.1]? with
   | none => simp [hp] at ht
   | some q =>
    simp only [hp, Option.bind_some] at ht
    have := okDst_of hn hp
    simpa [okDst, ht] using this
 have key : ∀ (fuel : Nat) (listed : Array Bool) (l : List Nat) (a : Act) (w : World) (vs : List AV) (rem : List Nat) (ae : AH), Marks ops.size listed l → Closed ops l → fuel + l.length = ops.size → vs.length = ops.size →
   rem.Nodup → (∀ x, x ∈ rem ↔ (x ∈ E ∧ x ∉ l)) → AX C ds ks ops af aq rem.length rem vs ae → (∀ x, memN x E = false → vs.getD x .any = vs0.getD x .any) → ((∃ e ∈ E, e ∈ l) ∨ ae = ae0) →
   Good C ds (frameOf ops vs af l) (ae ++ aq) a w → wpAnyIn (fz C.ro) 0 C.P .any ops (hnd C.P C.ro C.R ks) fuel listed a w := by
  intro fuel
  induction fuel with
  | zero =>
   intro listed l a w vs rem ae hM hc hf hvl' hrn hr hax hvq hea g
   have hnd : l.Nodup := by
    clear hf g hM hr hea
    induction hc with
    | nil => simp
    | cons _ hx _ _ ih => exact List.nodup_cons.2 ⟨hx, ih⟩
   have hready : Region.ready .any ops listed = [] := by
    rw [List.eq_nil_iff_forall_not_mem]
    intro i hi
    obtain ⟨h1, h2, _⟩ := hM.ready rfl hi
    have : (i :: l).length ≤ ops.size := by
     have hs : (i :: l) ⊆ List.range ops.size := fun j hj => List.mem_range.2 (by rcases List.mem_cons.1 hj with rfl | hj; exact h1; exact hM.2.2 j hj)
     have := nodup_len (List.nodup_cons.2 ⟨h2, hnd⟩) hs
     simpa using this
    simp at this
    omega
   have hall := hM.full rfl hd hready
   refine ⟨hready, ?_⟩
   have hrem : rem = [] := by
    rw [List.eq_nil_iff_forall_not_mem]
    intro x hx
    obtain ⟨h1, h2⟩ := (hr x).1 hx
    exact h2 (hall x (hEl x h1))
   subst hrem
   refine AW.out (show AW C ds ks (frameOf ops vs af (down ops.size)) (ae ++ aq) from hax) a w { g with fr := fun s v hs => g.fr s v (by
    rw [get_frameOf, wr_all hd hc ops.size hall (fun i hi => hM.2.2 i hi), ← get_frameOf]; exact hs) }
  | succ fuel ih =>
   intro listed l a w vs rem ae hM hc hf hvl' hrn hr hax hvq hea g
   refine ⟨fun hready => ?_, fun i hi => ?_⟩
   ·exfalso
    have hall := hM.full rfl hd hready
    have hs : List.range ops.size ⊆ l := fun i hi => hall i (List.mem_range.1 hi)
    have := nodup_len List.nodup_range hs
    simp at this
    omega
   ·obtain ⟨h1, h2, o, ho, he⟩ := hM.ready rfl hi
    have hc' : Closed ops (i :: l) := .cons hc h2 ho he
    have hdst : dstOf ops i = o.dst := by simp [dstOf, ho]
    by_cases hiE : memN i E = true
    ·have hiE' : i ∈ E := memN_iff.1 hiE
     have hir : i ∈ rem := (hr i).2 ⟨hiE', h2⟩
     obtain ⟨n, hlen⟩ : ∃ n, rem.length = n + 1 := ⟨rem.length - 1, by have := List.length_pos_of_mem hir; omega⟩
     rw [hlen] at hax
     have hfree : ∀ j ∈ rem, clB ops ops.size i j = false := fun j hj => by
      rw [Bool.eq_false_iff]
      intro hb
      exact ((hr j).1 hj).2 (Closed.before _ hc' hb)
     obtain ⟨o', ho', hstep⟩ := hax i hir hfree
     rw [ho] at ho'
     obtain rfl := Option.some.inj ho'
     have hkk : keep (oslots ops o) (frameOf ops vs af (down i)) = keep (oslots ops o) (frameOf ops vs af l) := keep_congr fun s hs => by
      rw [get_frameOf, get_frameOf, wr_text hd hc' ho hs]
     have hrn' : (rem.erase i).Nodup := hrn.erase i
     have hr' : ∀ x, x ∈ rem.erase i ↔ (x ∈ E ∧ x ∉ i :: l) := fun x => by
      rw [hrn.mem_erase_iff, hr x, List.mem_cons]
      constructor
      ·rintro ⟨h1, h2, h3⟩; exact ⟨h2, fun h => h.elim h1 h3⟩
      ·rintro ⟨h1, h2⟩; exact ⟨fun h => h2 (.inl h), h1, fun h => h2 (.inr h)⟩
     have hlen' : (rem.erase i).length = n := by rw [List.length_erase_of_mem hir]; omega
     have hfin : ∀ (v : AV) (h : AH) (a' : Act) (w' : World), AX C ds ks ops af aq n (rem.erase i) (vs.set i v) h → Good C ds (put (frameOf ops vs af l) o.dst v) (h ++ aq) a' w' →
       wpAnyIn (fz C.ro) 0 C.P .any ops (hnd C.P C.ro C.R ks) fuel (listed.setIfInBounds i true) a' w' := by
      intro v h a' w' hax' g'
      refine ih _ (i :: l) a' w' (vs.set i v) (rem.erase i) h (hM.set h1) hc' (by simp; omega) (by simpa using hvl') hrn' hr' (by rw [hlen']; exact hax') (fun x hx => ?_) (.inl ⟨i, hiE', by simp⟩) ?_
      ·have : i ≠ x := fun e => by subst e; rw [hiE] at hx; cases hx
       rw [getD_set_ne this]; exact hvq x hx
      ·simp only [frameOf, hdst]
       have e1 : (vs.set i v).getD i .any = v := by
        rw [List.getD_eq_getElem?_getD, List.getElem?_set_self (by omega)]; rfl
       rw [e1, frameOf_congr (us := vs) fun x hx => getD_set_ne (fun e => h2 (by rw [e]; exact hx))]
       exact g'
     rcases hstep with ⟨hg, hax'⟩ | ⟨hg, Φ, hop, hret, hpan⟩
     ·refine quiet_one (v := .tup []) (K := wpAnyIn (fz C.ro) 0 C.P .any ops (hnd C.P C.ro C.R ks) fuel (listed.setIfInBounds i true)) g ho (okDst_of hn ho) (hgt i o ho) hkk (.inr ⟨hg, rfl⟩) fun a' w' g' => ?_
      refine ih _ (i :: l) a' w' (vs.set i (.tup [])) (rem.erase i) ae (hM.set h1) hc' (by simp; omega) (by simpa using hvl') hrn' hr' ?_ (fun x hx => ?_) (.inl ⟨i, hiE', by simp⟩) ?_
      ·rw [hlen']; exact hax'
      ·have : i ≠ x := fun e => by subst e; rw [hiE] at hx; cases hx
       rw [getD_set_ne this]; exact hvq x hx
      ·simp only [frameOf, hdst]
       have e1 : (vs.set i (.tup [])).getD i .any = .tup [] := by
        rw [List.getD_eq_getElem?_getD, List.getElem?_set_self (by omega)]; rfl
       rw [e1, frameOf_congr (us := vs) fun x hx => getD_set_ne (fun e => h2 (by rw [e]; exact hx))]
       exact g'
     ·refine heavy_one g ho (okDst_of hn ho) (hgt i o ho) hkk ⟨hg, hop.frameL aq⟩ (fun v h a' w' ⟨h', hΦ, e⟩ g' => ?_) (fun v h ⟨h', hΦ, e⟩ => ?_)
      ·subst e; exact hfin v h' a' w' (hret v h' hΦ) g'
      ·subst e; exact hpan v h' hΦ
    ·have hiE : memN i E = false := by simpa using hiE
     have hvi : vs0[i]? = some (vs0.getD i .any) := by
      rw [List.getElem?_eq_getElem (by omega)]; simp [List.getD_eq_getElem?_getD, List.getElem?_eq_getElem (show i < vs0.length by omega)]
     have hkk : keep (oslots ops o) (frameOf ops vs0 af (down i)) = keep (oslots ops o) (frameOf ops vs af l) := keep_congr fun s hs => by
      rw [get_frameOf, get_frameOf, ← wr_text hd hc' ho hs]
      cases hw : wr ops s l with
      | none => rfl
      | some y =>
       have hyq : memN y E = false := by
        rw [wr_text hd hc' ho hs] at hw
        simp only [quietOK, List.all_eq_true, List.mem_range, Bool.or_eq_true] at hqo
        have := hqo i h1
        simp only [hiE, ho, Bool.false_eq_true, false_or, List.all_eq_true] at this
        have := this s hs
        rw [hw] at this
        simpa using this
       simp only [hvq y hyq]
     have hqs : QStep C.P ops (ae ++ aq) o (frameOf ops vs0 af (down i)) (vs0.getD i .any) := by
      rcases hq i o _ hiE ho hvi with h | ⟨h, h'⟩
      ·exact h.frame ae
      ·rcases hea with ⟨e, heE, hel⟩ | rfl
       ·exfalso
        simp only [earlyB, List.all_eq_true] at h
        obtain ⟨l1, l2, rfl, hcl⟩ := hc.split hel
        exact h2 (List.mem_append_right _ (List.mem_cons_of_mem _ (Closed.before _ hcl (h e heE))))
       ·exact h'
     refine quiet_one (K := wpAnyIn (fz C.ro) 0 C.P .any ops (hnd C.P C.ro C.R ks) fuel (listed.setIfInBounds i true)) g ho (okDst_of hn ho) (hgt i o ho) hkk hqs fun a' w' g' => ?_
     refine ih _ (i :: l) a' w' vs rem ae (hM.set h1) hc' (by simp; omega) hvl' hrn (fun x => ?_) hax hvq (hea.imp (fun ⟨e, h1, h2⟩ => ⟨e, h1, List.mem_cons_of_mem _ h2⟩) (fun h => h)) ?_
     ·rw [hr x, List.mem_cons]
      constructor
      ·rintro ⟨k1, k2⟩; exact ⟨k1, fun h => h.elim (fun e => by subst e; rw [memN_iff.2 k1] at hiE; cases hiE) k2⟩
      ·rintro ⟨h1, h2⟩; exact ⟨h1, fun h => h2 (.inr h)⟩
     ·simp only [frameOf, hdst]
      rw [hvq i hiE]
      exact g'
 refine key ops.size (Array.replicate ops.size false) [] a _ vs0 E ae0 ⟨by simp, fun i hi => by simp [hi], by simp⟩ .nil (by simp) hvl hEn (fun x => by simp) hx (fun _ _ => rfl) (.inr rfl) ?_
 have hx : Ext (fun _ _ => False) w { w with drawn := w.drawn + 1 } := ⟨rfl, rfl, rfl, Nat.le_refl _, fun _ _ _ => rfl, fun _ _ h _ => h⟩
 exact { g with st := g.st.grow hx, ext := ⟨g.ext.os, g.ext.tape, g.ext.output, g.ext.size, g.ext.blk, g.ext.cell⟩, fr := fun s v hs => Rel.mv (w := w) (w' := { w with drawn := w.drawn + 1 }) (S := Sof C.Fr (ae0 ++ aq)) (S' := Sof C.Fr (ae0 ++ aq)) (fun _ _ hc hs => ⟨hc, hs⟩) (g.fr s v hs) }
structure AQE (P : Program) (ops : Array Oper) (aq aa : AH) (E : List Nat) (n : Nat) (rest : List Oper) (af : AF) (K : List AV → Prop) : Prop where
 out : ∃ us : List AV, us.length = rest.length ∧ K us ∧ ∀ i o v, rest[i]? = some o → us[i]? = some v →
  memN (n + i) E = true ∨ QStep P ops aq o (((rest.zip us).take i).foldl (fun f p => put f p.1.dst p.2) af) v ∨ (earlyB ops E (n + i) = true ∧ QStep P ops aa o (((rest.zip us).take i).foldl (fun f p => put f p.1.dst p.2) af) v)
section
variable {P : Program} {ops : Array Oper} {aq aa : AH} {E : List Nat} {n : Nat} {af : AF} {K : List AV → Prop} {rest : List Oper} {o : Oper}
theorem AQE.nil (h : K []) : AQE P ops aq aa E n [] af K := ⟨[], rfl, h, by simp⟩
theorem AQE.cons {v : AV} (h : memN n E = true ∨ QStep P ops aq o af v ∨ (earlyB ops E n = true ∧ QStep P ops aa o af v)) (k : AQE P ops aq aa E (n + 1) rest (put af o.dst v) (fun us => K (v :: us))) : AQE P ops aq aa E n (o :: rest) af K := by
 obtain ⟨vs, h1, h2, h3⟩ := k.out
 refine ⟨v :: vs, by simp [h1], h2, fun i o' v' ho hv => ?_⟩
 cases i with
 | zero => simp at ho hv; subst ho; subst hv; simpa using h
 | succ i =>
  have := h3 i o' v' (by simpa using ho) (by simpa using hv)
  rw [show n + 1 + i = n + (i + 1) by omega] at this
  simpa using this
theorem AQE.hole {af' : AF} (he : memN n E = true) (hp : put af o.dst .any = af') (k : AQE P ops aq aa E (n + 1) rest af' (fun us => K (.any :: us))) : AQE P ops aq aa E n (o :: rest) af K := AQE.cons (.inl he) (by rw [hp]; exact k)
theorem AQE.op {v : AV} {d : Nat} {af' : AF} (hkp : keep (oslots ops o) af = af') (h : AOp P o af' aq (D v aq)) (hg : o.guard = none) (hd : o.dst = some d) (k : AQE P ops aq aa E (n + 1) rest ((d, v) :: af) (fun us => K (v :: us))) : AQE P ops aq aa E n (o :: rest) af K :=
 AQE.cons (.inr (.inl (.inl ⟨by simp [gdo, hg], hkp ▸ h⟩))) (by rw [hd]; exact k)
theorem AQE.early {v : AV} {d : Nat} {af' : AF} (he : earlyB ops E n = true) (hkp : keep (oslots ops o) af = af') (h : AOp P o af' aa (D v aa)) (hg : o.guard = none) (hd : o.dst = some d) (k : AQE P ops aq aa E (n + 1) rest ((d, v) :: af) (fun us => K (v :: us))) : AQE P ops aq aa E n (o :: rest) af K :=
 AQE.cons (.inr (.inr ⟨he, .inl ⟨by simp [gdo, hg], hkp ▸ h⟩⟩)) (by rw [hd]; exact k)
theorem AQE.gop {v : AV} {d : Nat} {af' : AF} (hkp : keep (oslots ops o) af = af') (h : AOp P o af' aq (D v aq)) (hg : gdo ops af' o = some true) (hd : o.dst = some d) (k : AQE P ops aq aa E (n + 1) rest ((d, v) :: af) (fun us => K (v :: us))) : AQE P ops aq aa E n (o :: rest) af K :=
 AQE.cons (.inr (.inl (.inl ⟨hkp ▸ hg, hkp ▸ h⟩))) (by rw [hd]; exact k)
theorem AQE.skip {d : Nat} {af' : AF} (hkp : keep (oslots ops o) af = af') (hg : gdo ops af' o = some false) (hd : o.dst = some d) (k : AQE P ops aq aa E (n + 1) rest ((d, .tup []) :: af) (fun us => K (.tup [] :: us))) : AQE P ops aq aa E n (o :: rest) af K :=
 AQE.cons (.inr (.inl (.inr ⟨hkp ▸ hg, rfl⟩))) (by rw [hd]; exact k)
end
def okE (E : List Nat) (n : Nat) : Bool := match E with | [] => true | e :: r => Nat.blt e n && !memN e r && okE r n
theorem okE_iff {n : Nat} : ∀ {E : List Nat}, okE E n = true → E.Nodup ∧ ∀ e ∈ E, e < n
 | [], _ => by simp
 | e :: r, h => by
  simp only [okE, Bool.and_eq_true, Bool.not_eq_true'] at h
  obtain ⟨⟨h1, h2⟩, h3⟩ := h
  have := okE_iff h3
  refine ⟨List.nodup_cons.2 ⟨fun hm => ?_, this.1⟩, fun x hx => ?_⟩
  ·rw [memN_iff.2 hm] at h2; cases h2
  ·rcases List.mem_cons.1 hx with rfl | hx
   ·simpa using h1
   ·exact this.2 x hx
theorem AW.explore {ops : Array Oper} {id : Nat} (m : List Bool) (E : List Nat) (hm : C.P.follows .mixedOrders = true) (hd : drawOK ops = true) (hn : ops.toList.all (fun o => okDst o.dst C.n) = true) (hqo : quietOK ops E = true) (hE : okE E ops.size = true)
  (h : AQE C.P ops (uns m ah) (sel m ah ++ uns m ah) E 0 ops.toList af (fun vs => AX C ds ks ops af (uns m ah) E.length E vs (sel m ah))) : AW C ds (.c (.region id ops true) :: ks) af ah := by
 obtain ⟨vs, h1, h2, h3⟩ := h.out
 refine AW.perm (sel_perm m ah).symm ?_
 refine AW.explore_core hm hd hn hqo (okE_iff hE).1 (okE_iff hE).2 (vs0 := vs) (by simpa using h1) (fun x o v hx ho hv => ?_) h2
 have hxs : x < ops.size := (Array.getElem?_eq_some_iff.1 ho).1
 have := h3 x o v (by simpa using ho) hv
 rw [Nat.zero_add, hx, ← frameOf_down x (by omega) (by rw [h1, Array.length_toList]; omega)] at this
 exact this.resolve_left (by simp)
section
variable {ops : Array Oper} {aq ae : AH} {n : Nat} {rem : List Nat} {vs : List AV}
def readyL (ops : Array Oper) (rem : List Nat) : List Nat := rem.filter fun i => rem.all fun j => !clB ops ops.size i j
def AXS (C : Cx) (ds : List Deferred) (ks : List K) (ops : Array Oper) (af : AF) (aq : AH) (n : Nat) (rem : List Nat) (vs : List AV) (ae : AH) (i : Nat) : Prop :=
 ∃ o, ops[i]? = some o ∧
   ((gdo ops (keep (oslots ops o) (frameOf ops vs af (down i))) o = some false ∧ AX C ds ks ops af aq n (rem.erase i) (vs.set i (.tup [])) ae) ∨
    (gdo ops (keep (oslots ops o) (frameOf ops vs af (down i))) o = some true ∧ ∃ Φ : AEnd → AH → Prop, AOp C.P o (keep (oslots ops o) (frameOf ops vs af (down i))) ae Φ ∧
     (∀ v h, Φ (.ret v) h → AX C ds ks ops af aq n (rem.erase i) (vs.set i v) h) ∧ (∀ v h, Φ (.pan v) h → APan C ds v (h ++ aq))))
theorem AX.done (af' : AF) (he : keep (af'.map (·.1)) (frameOf ops vs af (down ops.size)) = af') (k : AW C ds ks af' (ae ++ aq)) : AX C ds ks ops af aq 0 rem vs ae :=
 AW.weaken k fun i v hi => get_keep (he ▸ hi)
theorem AX.next (l : List Nat) (hr : readyL ops rem = l) (h : ∀ i ∈ l, AXS C ds ks ops af aq n rem vs ae i) : AX C ds ks ops af aq (n + 1) rem vs ae := by
 intro i hi hf
 refine h i ?_
 rw [← hr]
 simp only [readyL, List.mem_filter, List.all_eq_true, Bool.not_eq_true']
 exact ⟨hi, hf⟩
theorem AX.one (i : Nat) (hr : readyL ops rem = [i]) (h : AXS C ds ks ops af aq n rem vs ae i) : AX C ds ks ops af aq (n + 1) rem vs ae :=
 AX.next [i] hr fun j hj => by obtain rfl := List.mem_singleton.1 hj; exact h
theorem AX.two (i j : Nat) (hr : readyL ops rem = [i, j]) (h : AXS C ds ks ops af aq n rem vs ae i) (h' : AXS C ds ks ops af aq n rem vs ae j) : AX C ds ks ops af aq (n + 1) rem vs ae :=
 AX.next [i, j] hr fun k hk => by
  rcases List.mem_cons.1 hk with rfl | hk
  ·exact h
  ·obtain rfl := List.mem_singleton.1 hk; exact h'
theorem AXS.step {i : Nat} {o : Oper} {af' : AF} {Φ : AEnd → AH → Prop} (ho : ops[i]? = some o) (hg : o.guard = none) (hkp : keep (oslots ops o) (frameOf ops vs af (down i)) = af') (h : AOp C.P o af' ae Φ)
  (hk : ∀ v h, Φ (.ret v) h → AX C ds ks ops af aq n (rem.erase i) (vs.set i v) h) (hp : ∀ v h, Φ (.pan v) h → APan C ds v (h ++ aq)) : AXS C ds ks ops af aq n rem vs ae i :=
 ⟨o, ho, .inr ⟨by simp [gdo, hg], Φ, hkp ▸ h, hk, hp⟩⟩
theorem AXS.det {i : Nat} {o : Oper} {af' : AF} {v : AV} {ae' : AH} (ho : ops[i]? = some o) (hg : o.guard = none) (hkp : keep (oslots ops o) (frameOf ops vs af (down i)) = af') (h : AOp C.P o af' ae (D v ae'))
  (hk : AX C ds ks ops af aq n (rem.erase i) (vs.set i v) ae') : AXS C ds ks ops af aq n rem vs ae i :=
 AXS.step ho hg hkp h (by rintro v' h' ⟨e, rfl⟩; injection e with e; subst e; exact hk) (by rintro v' h' ⟨e, _⟩; cases e)
theorem AXS.new {i : Nat} {o : Oper} {af' : AF} {mk : Nat → AV} {ob : Nat → AH} (ho : ops[i]? = some o) (hg : o.guard = none) (hkp : keep (oslots ops o) (frameOf ops vs af (down i)) = af') (h : AOp C.P o af' ae (fun x h => ∃ b, x = .ret (mk b) ∧ h = ob b))
  (hk : ∀ b, AX C ds ks ops af aq n (rem.erase i) (vs.set i (mk b)) (ob b)) : AXS C ds ks ops af aq n rem vs ae i :=
 AXS.step ho hg hkp h (by rintro v' h' ⟨b, e, rfl⟩; injection e with e; subst e; exact hk b) (by rintro v' h' ⟨b, e, _⟩; cases e)
end
end
def rowTy (P : Program) (T : TypeId) : Option (Nat × Value × Nat) := match P.underlying T with
 | some (.slice e) => match P.info? e with
  | some i => match i.zero with
   | some z => match z.cells.toList with
    | [c] => bif Nat.beq i.size 1 then some (e, c, i.bytes) else none
    | _ => none
   | none => none
  | none => none
 | _ => none
theorem rowTy_parts {P : Program} {T e : Nat} {c : Value} {bytes : Nat} (h : rowTy P T = some (e, c, bytes)) : P.underlying T = some (.slice e) ∧ ∃ i z, P.info? e = some i ∧ i.zero = some z ∧ z.cells = #[c] ∧ i.size = 1 ∧ i.bytes = bytes := by
 unfold rowTy at h
 split at h
 ·rename_i e' hu
  split at h
  ·rename_i i hi
   split at h
   ·rename_i z hz
    split at h
    ·rename_i c' hc
     obtain ⟨h1, h2⟩ := cond_some h
     simp only [Prod.mk.injEq] at h2
     obtain ⟨rfl, rfl, rfl⟩ := h2
     exact ⟨hu, i, z, hi, hz, by apply Array.ext'; simpa using hc, nbeq_iff.1 h1, rfl⟩
    ·cases h
   ·cases h
  ·cases h
 ·cases h
section
variable {P : Program} {af : AF} {ah : AH}
variable {d : Option Tmp} {T : TypeId} {ps : String} {es : Array Edge} {gd : Option (Nat × Bool)}
theorem AOp.makeSlice {x y : Operand} {n : Nat} {t e bytes : Nat} {c : Value} {z : AV} (hx : aeval af x = some (.int .i64 n)) (hy : aeval af y = some (.int .i64 n)) (ht : rowTy P t = some (e, c, bytes)) (hz : z.flat = some [c]) (hb : n * bytes ≤ 16777216) (hn : n ≤ 16777216) :
  AOp P ⟨d, .makeSlice t x y, T, ps, es, gd⟩ af ah (fun r h => ∃ b, r = .ret (.osl b n n) ∧ h = .row b (List.replicate n z) :: ah) := .mk fun Fr a w hst hf => by
 have e1 := (aeval_rel hf hx).int
 have e2 := (aeval_rel hf hy).int
 obtain ⟨hu, i, zv, hi, hzv, hzc, hs, hbt⟩ := rowTy_parts ht
 have hb' : (i.bytes : Int) * (n : Int) ≤ 281474976710656 := by
  have h : ((i.bytes * n : Nat) : Int) ≤ 281474976710656 := by rw [hbt, Nat.mul_comm]; omega
  rwa [Int.natCast_mul] at h
 have hr := run_make (P := P) w t e i zv hu hi hzv .i64 .i64 n n (by omega) (Int.le_refl _) hb' (by omega)
 have hcells : madeCells zv.cells (n * i.size) = Array.replicate n c := by
  rw [hzc, hs, Nat.mul_one]
  apply Array.ext'
  rw [toList_madeCells_one]; simp
 simp only [Int.toNat_natCast, hcells] at hr
 have hrun : (execOp a.eval ⟨d, .makeSlice t x y, T, ps, es, gd⟩).run P w = .ok (.value (.slice (some ⟨w.heap.size, 0, none⟩) n n)) (w.alloc (.cells (Array.replicate n c) e)) := by
  simp [execOp, e1, e2, hr]
 rw [hrun]
 have hx' : Ext (fun _ _ => False) w (w.alloc (.cells (Array.replicate n c) e)) := Ext.alloc _ _ _
 obtain ⟨h1, h2, h3⟩ := hst.cons (x := .row w.heap.size (List.replicate n z)) (b := w.heap.size) rfl (Nat.le_refl _) (by simp) hx' (fun m => ⟨_, e, heap_alloc_new w _, fun k v hk => by
  obtain ⟨hk1, rfl⟩ : k < n ∧ z = v := by
   rw [List.getElem?_replicate] at hk
   split at hk
   ·exact ⟨‹_›, Option.some.inj hk⟩
   ·cases hk
  exact ⟨c, by simp [hk1], RelC.flat z _ hz⟩⟩)
 exact ⟨_, _, ⟨_, rfl, rfl⟩, ⟨_, rfl, by simp [RelC, Value.cells, maxLen]; omega, by simp [Shape]⟩, h1, h2, h3⟩
theorem row_lay {S : Rg} {w : World} {cs : Array Value} {xs ys : List AV} {ds : List Value} {o : Nat} (h : ∀ (i : Nat) x, xs[i]? = some x → ∃ v, cs[i]? = some v ∧ RelC S w x [v]) (hl : o + ys.length ≤ cs.size) (hd : ds.length = ys.length)
  (hy : ∀ (i : Nat) y, ys[i]? = some y → ∃ v, ds[i]? = some v ∧ RelC S w y [v]) :
  ∀ (i : Nat) x, (xs.take o ++ ys ++ xs.drop (o + ys.length))[i]? = some x → o ≤ xs.length → ∃ v, (lay cs.toList o ds).toArray[i]? = some v ∧ RelC S w x [v] := by
 intro i x hx ho
 have hlay : (lay cs.toList o ds)[i]? = if i < o then cs.toList[i]? else if i < o + ds.length then ds[i - o]? else cs.toList[i]? := lay_get (by simp; omega)
 rw [List.getElem?_toArray, hlay]
 rw [List.append_assoc] at hx
 by_cases h1 : i < o
 ·rw [List.getElem?_append_left (by simp; omega), List.getElem?_take, if_pos h1] at hx
  rw [if_pos h1]
  simpa using h i x hx
 ·rw [List.getElem?_append_right (by simp; omega)] at hx
  have e1 : (xs.take o).length = o := by simp; omega
  rw [e1] at hx
  rw [if_neg h1]
  by_cases h2 : i < o + ds.length
  ·rw [List.getElem?_append_left (by omega)] at hx
   rw [if_pos h2]
   exact hy _ x hx
  ·rw [List.getElem?_append_right (by omega), List.getElem?_drop] at hx
   rw [if_neg h2]
   rw [show o + ys.length + (i - o - ys.length) = i by omega] at hx
   simpa using h i x hx
theorem St.laid {P : Program} {Fr : Rg} {w : World} (hst : St Fr ah w) {b i o : Nat} {xs ys : List AV} {ds : List Value} (hi : ah[i]? = some (.row b xs)) (ho : o + ys.length ≤ xs.length) (hd : ds.length = ys.length) (h1 : ∀ v ∈ ds, v.oneCell' = true)
  (hy : ∀ (i : Nat) y, ys[i]? = some y → ∃ v, ds[i]? = some v ∧ RelC (Sof Fr ah) w y [v]) :
  ∃ w', (storeCells ⟨b, o, none⟩ ds 0).run P w = .ok () w' ∧ St Fr (ah.set i (.row b (xs.take o ++ ys ++ xs.drop (o + ys.length)))) w' ∧ Ext (reg ah) w w' ∧ ∀ k o', k < w.heap.size → reg (ah.set i (.row b (xs.take o ++ ys ++ xs.drop (o + ys.length)))) k o' → reg ah k o' := by
 obtain ⟨cs, t, hh, hr⟩ := hst.rel _ (List.mem_of_getElem? hi)
 have hsz : xs.length ≤ cs.size := by
  rcases Nat.eq_zero_or_pos xs.length with h | h
  ·omega
  ·obtain ⟨v, hv, _⟩ := hr (xs.length - 1) xs[xs.length - 1] (List.getElem?_eq_getElem (by omega))
   have := (Array.getElem?_eq_some_iff.1 hv).1
   omega
 obtain ⟨w', r1, r2, r3, r4, e1, e2, e3⟩ := run_storeCells (P := P) (b := b) (t := t) o ds 0 w cs hh (by omega) h1
 have hext : Ext (Own.row b xs).reg w w' := ⟨e1, e2, e3, by omega, fun k hk hn => r3 k (fun e => hn 0 e), fun a v hc hn => (World.cell?_of_block (r3 a.block (fun e => hn e))).trans hc⟩
 obtain ⟨k1, k2, k3⟩ := hst.update (x' := .row b (xs.take o ++ ys ++ xs.drop (o + ys.length))) hi hext (fun k hk => .inl hk) (fun _ _ _ h => h)
  (fun k hk => by simp only [Own.blk, Option.some.injEq] at hk; subst hk; exact Nat.lt_of_lt_of_le (hst.lt _ (List.mem_of_getElem? hi) b rfl) hext.size) (fun m => by
   refine ⟨_, t, r2, fun j x hx => ?_⟩
   obtain ⟨v, hv, hrv⟩ := row_lay (S := Sof Fr ah) (w := w) hr (by omega) hd hy j x hx (by omega)
   exact ⟨v, hv, RelC.mv m _ _ hrv⟩)
 exact ⟨w', r1, k1, k2, k3⟩
theorem set_eq {xs : List AV} {o : Nat} {v : AV} (h : o < xs.length) : xs.take o ++ [v] ++ xs.drop (o + [v].length) = xs.set o v := by
 rw [List.set_eq_take_append_cons_drop, if_pos h]; simp
theorem AOp.store_row {x y : Operand} {b off : Nat} {xs : List AV} {v : AV} {t : TypeId} {i : Nat} {g : Bool} (hx : aeval af x = some (.ref b off)) (hy : aeval af y = some v) (hi : ah[i]? = some (.row b xs)) (hs : off < xs.length) (hok : v.cellOK = true) (hz : v.size = 1)
  (ht : tkind P t = some (g, v.size)) : AOp P ⟨d, .store t x y, T, ps, es, gd⟩ af ah (fun e h => (∃ u, e = .ret u) ∧ h = ah.set i (.row b (xs.set off v))) := .mk fun Fr a w hst hf => by
 have hr := aeval_rel hf hy
 have hsz := RelC.size v _ hr.1
 obtain ⟨c, hc⟩ : ∃ c, (a.eval y).cells.toList = [c] := by
  match h : (a.eval y).cells.toList, (show (a.eval y).cells.toList.length = 1 by omega) with
  | [c], _ => exact ⟨c, rfl⟩
 obtain ⟨w', r1, k1, k2, k3⟩ := hst.laid (P := P) (ys := [v]) (ds := [c]) (o := off) hi (by simp; omega) rfl (fun u hu => RelC.cellOK v _ hr.1 hok u (by rw [hc]; exact hu)) (fun j y hj => by
  cases j with
  | zero => simp only [List.getElem?_cons_zero, Option.some.injEq] at hj; subst hj; exact ⟨c, rfl, hc ▸ hr.1⟩
  | succ j => simp at hj)
 rw [set_eq hs] at k1 k3
 have hrun : (execOp a.eval ⟨d, .store t x y, T, ps, es, gd⟩).run P w = .ok .skip w' := by
  have : (storeVar t ⟨b, off, none⟩ (a.eval y)).run P w = .ok () w' := by
   unfold storeVar
   simp only [Sem.run_bind, run_sizeOf ht, Result.andThen_ok]
   rw [if_neg (by simp at hsz; simp [hsz]), hc]
   exact r1
  simp [execOp, (aeval_rel hf hx).ref, Instr.storeAt, Instr.sureAddr, this]
 rw [hrun]
 exact ⟨.ret .any, _, ⟨⟨_, rfl⟩, rfl⟩, ⟨_, rfl, by simp [RelC, undef, Value.cells], by simp [Shape]⟩, k1, k2, k3⟩
theorem RelCs.get1 {S : Rg} {w : World} : ∀ {ys : List AV} {ds : List Value}, RelCs S w ys ds → (∀ y ∈ ys, y.size = 1) → ∀ (i : Nat) y, ys[i]? = some y → ∃ v, ds[i]? = some v ∧ RelC S w y [v]
 | [], _, _, _, i, y, hy => by simp at hy
 | x :: xs, ds, h, hs, i, y, hy => by
  simp only [RelCs] at h
  obtain ⟨c1, c2, rfl, h1, h2⟩ := h
  have hl : c1.length = 1 := by rw [RelC.size x c1 h1, hs x (by simp)]
  match c1, hl with
  | [c], _ =>
   cases i with
   | zero => simp only [List.getElem?_cons_zero, Option.some.injEq] at hy; subst hy; exact ⟨c, rfl, h1⟩
   | succ i =>
    simp only [List.getElem?_cons_succ] at hy
    obtain ⟨v, hv, hr⟩ := RelCs.get1 h2 (fun z hz => hs z (List.mem_cons_of_mem _ hz)) i y hy
    exact ⟨v, by simpa using hv, hr⟩
theorem zeroCells_one (c : Value) (n : Nat) : (Builtin.zeroCells #[c] n).toList = List.replicate n c := by
 have : Builtin.zeroCells #[c] n = Array.replicate n c := by
  unfold Builtin.zeroCells
  apply Array.ext <;> simp
  intro k hk
  simp [Nat.mod_one]
 rw [this]; simp
theorem AOp.clear {x : Operand} {b n c i : Nat} {xs : List AV} {z : AV} {t e bytes : Nat} {c0 : Value} (hx : aeval af x = some (.osl b n c)) (hi : ah[i]? = some (.row b xs)) (hn : n ≤ xs.length) (ht : rowTy P t = some (e, c0, bytes)) (hz : z.flat = some [c0]) (hok : c0.oneCell' = true) :
  AOp P ⟨d, .call ⟨.builtin .clear, #[x], #[t]⟩, T, ps, es, gd⟩ af ah (D (.tup []) (ah.set i (.row b (List.replicate n z ++ xs.drop n)))) := .mk fun Fr a w hst hf => by
 obtain ⟨hu, hl1, hl2⟩ := (aeval_rel hf hx).osl
 obtain ⟨hut, ii, zv, hii, hzv, hzc, hsz, _⟩ := rowTy_parts ht
 obtain ⟨w', r1, k1, k2, k3⟩ := hst.laid (P := P) (ys := List.replicate n z) (ds := List.replicate n c0) (o := 0) hi (by simpa using hn) (by simp) (fun v hv => by obtain rfl := (List.mem_replicate.1 hv).2; exact hok) (fun j y hj => by
  rw [List.getElem?_replicate] at hj ⊢
  split at hj
  ·rename_i h; obtain rfl := Option.some.inj hj; exact ⟨c0, by rw [if_pos h], RelC.flat z _ hz⟩
  ·cases hj)
 simp only [List.take_zero, List.nil_append, Nat.zero_add, List.length_replicate] at k1 k3
 have hrun : (execOp a.eval ⟨d, .call ⟨.builtin .clear, #[x], #[t]⟩, T, ps, es, gd⟩).run P w = .ok (.value (.tuple #[])) w' := by
  have hc : (Builtin.clear_ #[t] T #[.slice (some ⟨b, 0, none⟩) n c]).run P w = .ok (.tuple #[]) w' := by
   unfold Builtin.clear_
   simp only [List.getElem?_toArray, List.getElem?_cons_zero, Sem.run_bind, run_underlying hut, Result.andThen_ok]
   by_cases hn0 : n = 0
   ·subst hn0
    simp only [List.replicate_zero, storeCells, Sem.run_pure, Result.ok.injEq, true_and] at r1
    subst r1
    simp
   ·simp only [zeroValue, typeInfo, program, Sem.run, hii, hzv, Sem.run_bind, Sem.run_pure, Result.andThen_ok, hzc, zeroCells_one]
    rw [r1]; rfl
  simp only [execOp, resolve, invoke, builtin, Sem.run_bind, Sem.run_pure, Result.andThen_ok, List.map_toArray, List.map_cons, List.map_nil, hu, hc]
 rw [hrun]
 exact ⟨_, _, ⟨rfl, rfl⟩, ⟨_, rfl, by simp [RelC, RelVs, Value.cells], by simp [Shape]⟩, k1, k2, k3⟩
end
section
variable {C : Cx} {ds : List Deferred} {ks : List K} {af : AF} {ah : AH} {ops : Array Oper} {rest : List Oper}
theorem Good.freeze_row {a : Act} {w : World} (g : Good C ds af ah a w) {i d b n c : Nat} {xs : List AV} (hi : ah[i]? = some (.row b xs)) (hd : get af d = some (.osl b n c)) (hn : n = xs.length) (hs : ∀ x ∈ xs, x.size = 1) : Good C ds ((d, .sl xs) :: af) (ah.eraseIdx i) a w := by
 subst hn
 have g' := g.sub (List.eraseIdx_sublist ah i)
 obtain ⟨cs, t, hh, hr⟩ := g.st.rel _ (List.mem_of_getElem? hi)
 have hbm := List.mem_of_getElem? hi
 have hsof : ∀ b o, Sof C.Fr (ah.eraseIdx i) b o → Sof C.Fr ah b o := fun b o hs => hs.elim .inl fun hr => .inr (reg_sub (List.eraseIdx_sublist ah i) hr)
 refine { g' with fr := fun j v hj => ?_ }
 rw [get_cons] at hj
 by_cases e : d = j
 ·subst e
  rw [if_pos rfl] at hj
  obtain rfl := Option.some.inj hj
  obtain ⟨hu, hl1, hl2⟩ := (g.fr d _ hd).osl
  rw [hu]
  refine ⟨?_, by simp [Shape]⟩
  show RelC _ _ (.sl xs) [_]
  simp only [RelC]
  refine ⟨_, c, rfl, hl1, hl2, fun _ => ⟨b, 0, 1, rfl, ?_⟩⟩
  have hno : ∀ o, ¬ Sof C.Fr (ah.eraseIdx i) b o := by
   rintro o (hF | ⟨y, hy, hy'⟩)
   ·exact g.st.fr _ hbm b rfl _ hF
   ·have hyb := reg_blk hy'
    obtain ⟨e1, _⟩ := mem_split hi
    have hn := g.st.nodup
    rw [e1, List.filterMap_append, List.nodup_append, List.filterMap_cons] at hn
    simp only [Own.blk] at hn
    rw [List.eraseIdx_eq_take_drop_succ] at hy
    rcases List.mem_append.1 hy with hy | hy
    ·exact hn.2.2 b (List.mem_filterMap.2 ⟨y, hy, hyb⟩) b (by simp) rfl
    ·exact (List.nodup_cons.1 hn.2.1).1 (List.mem_filterMap.2 ⟨y, hy, hyb⟩)
  have key : ∀ (l : List AV) (o : Nat), (∀ (k : Nat) x, l[k]? = some x → ∃ v, cs[o + k]? = some v ∧ RelC (Sof C.Fr ah) w x [v]) → RelRow (Sof C.Fr (ah.eraseIdx i)) w l 1 b o := by
   intro l
   induction l with
   | nil => intro o _; simp [RelRow]
   | cons x l ih =>
    intro o h
    simp only [RelRow]
    obtain ⟨v, hv, hrv⟩ := h 0 x rfl
    refine ⟨⟨[v], rfl, RelC.mv (Mv.same w hsof) _ _ hrv, fun j u hj => ⟨hno _, ?_⟩⟩, ih (o + 1) fun k y hk => ?_⟩
    ·cases j with
     | zero => simp only [List.getElem?_cons_zero, Option.some.injEq] at hj; subst hj; rw [cell_of_row w b _ cs t (0, 0) hh]; exact hv
     | succ j => simp at hj
    ·obtain ⟨v, hv, hrv⟩ := h (k + 1) y (by simpa using hk)
     exact ⟨v, by rw [show o + 1 + k = o + (k + 1) by omega]; exact hv, hrv⟩
  exact key xs 0 fun k x hk => by rw [Nat.zero_add]; exact hr k x hk
 ·rw [if_neg e] at hj
  exact g'.fr j v hj
theorem AL.freeze_row (i d : Nat) {b n c : Nat} {xs : List AV} (hi : ah[i]? = some (.row b xs)) (hd : get af d = some (.osl b n c)) (hn : n = xs.length) (hs : ∀ x ∈ xs, x.size = 1) (k : AL C ds ks ops rest ((d, .sl xs) :: af) (ah.eraseIdx i)) : AL C ds ks ops rest af ah := .mk fun a w g => k.out a w (g.freeze_row hi hd hn hs)
theorem AW.freeze_row (i d : Nat) {b n c : Nat} {xs : List AV} (hi : ah[i]? = some (.row b xs)) (hd : get af d = some (.osl b n c)) (hn : n = xs.length) (hs : ∀ x ∈ xs, x.size = 1) (k : AW C ds ks ((d, .sl xs) :: af) (ah.eraseIdx i)) : AW C ds ks af ah := .mk fun a w g => k.out a w (g.freeze_row hi hd hn hs)
theorem AL.makeSlice {dd : Nat} {x y : Operand} {n : Nat} {t e bytes T : TypeId} {c : Value} {z : AV} {ps : String} {es : Array Edge} (hx : aeval af x = some (.int .i64 n)) (hy : aeval af y = some (.int .i64 n)) (ht : rowTy C.P t = some (e, c, bytes)) (hz : z.flat = some [c]) (hb : n * bytes ≤ 16777216) (hn : n ≤ 16777216) (hd : Nat.blt dd C.n = true)
  (hk : ∀ b, AL C ds ks ops rest ((dd, .osl b n n) :: af) (.row b (List.replicate n z) :: ah)) : AL C ds ks ops (⟨some dd, .makeSlice t x y, T, ps, es, none⟩ :: rest) af ah :=
 AL.step rfl hd (AOp.makeSlice hx hy ht hz hb hn) (by rintro _ _ ⟨b, e, rfl⟩; injection e with e; subst e; exact hk b) (by rintro _ _ ⟨b, e, _⟩; cases e)
theorem AL.store_row {x y : Operand} {b off : Nat} {xs : List AV} {v : AV} {t T : TypeId} {i : Nat} {g : Bool} {ps : String} {es : Array Edge} (hx : aeval af x = some (.ref b off)) (hy : aeval af y = some v) (hi : ah[i]? = some (.row b xs)) (hs : off < xs.length) (hok : v.cellOK = true) (hz : v.size = 1)
  (ht : tkind C.P t = some (g, v.size)) (hk : AL C ds ks ops rest af (ah.set i (.row b (xs.set off v)))) : AL C ds ks ops (⟨none, .store t x y, T, ps, es, none⟩ :: rest) af ah :=
 AL.step rfl rfl (AOp.store_row hx hy hi hs hok hz ht) (by rintro _ _ ⟨⟨u, e⟩, rfl⟩; exact hk) (by rintro _ _ ⟨⟨u, e⟩, _⟩; cases e)
end
def conc : AV → Option Value
 | .int k n => some (.int k n)
 | .bool b => some (.bool b)
 | .str s => some (.string s)
 | .ref b o => some (.pointer (some ⟨b, o, none⟩))
 | .map b => some (.map (some b))
 | .val v => some v
 | _ => none
theorem conc_rel {S : Rg} {w : World} {x : AV} {u c : Value} (h : Rel S w x u) (hc : conc x = some c) : u = c := by
 cases x <;> simp only [conc, Option.some.injEq] at hc <;> try cases hc
 ·exact h.int
 ·obtain ⟨h1, h2⟩ := h
  simp only [RelC] at h1
  cases u <;> simp [Value.cells] at h1 <;> simp_all [Shape]
 ·exact h.str
 ·exact h.ref
 ·obtain ⟨h1, h2⟩ := h
  simp only [RelC] at h1
  cases u <;> simp [Value.cells] at h1 <;> simp_all [Shape]
 ·simpa [Shape] using h.2
def concs : List AV → Option (List Value)
 | [] => some []
 | x :: xs => match conc x, concs xs with | some c, some cs => some (c :: cs) | _, _ => none
theorem concs_rel {S : Rg} {w : World} : ∀ {xs : List AV} {us cs : List Value}, RelVs S w xs us → concs xs = some cs → us = cs
 | [], us, cs, h, hc => by simp only [RelVs] at h; simp only [concs, Option.some.injEq] at hc; subst h; subst hc; rfl
 | x :: xs, us, cs, h, hc => by
  simp only [RelVs] at h
  obtain ⟨u, us', rfl, h1, h2, h3⟩ := h
  simp only [concs] at hc
  split at hc
  ·rename_i c cs' e1 e2
   obtain rfl := Option.some.inj hc
   rw [conc_rel ⟨h1, h2⟩ e1, concs_rel h3 e2]
  ·cases hc
def plainTy (P : Program) (T : TypeId) : Bool := match P.underlying T with | some (.interface _) => false | some _ => true | none => false
section
variable {P : Program} {af : AF} {ah : AH}
variable {d : Option Tmp} {T : TypeId} {ps : String} {es : Array Edge} {gd : Option (Nat × Bool)}
theorem AOp.iface {x : Operand} {v : AV} {c : Value} {t : TypeId} (hx : aeval af x = some v) (hc : conc v = some c) (ht : plainTy P t = true) : AOp P ⟨d, .makeInterface t x, T, ps, es, gd⟩ af ah (D (.val (.iface t c)) ah) :=
 AOp.of_pure fun S a w hf _ => by
  refine ⟨.iface t c, ?_, by simp [RelC], by simp [Shape]⟩
  have hu : ∃ dd, P.underlying t = some dd ∧ ∀ ms, dd ≠ .interface ms := by
   unfold plainTy at ht
   split at ht
   ·cases ht
   ·rename_i dd hn hd; exact ⟨dd, hd, fun ms e => hn ms e⟩
   ·cases ht
  obtain ⟨dd, hd, hne⟩ := hu
  have : (Instr.makeInterface t (a.eval x)).run P w = .ok (.iface t c) w := by
   unfold Instr.makeInterface
   simp only [Sem.run_bind, run_underlying hd, Result.andThen_ok, conc_rel (aeval_rel hf hx) hc]
   all_goals (cases dd <;> first | rfl | exact absurd rfl (hne _))
  simp [execOp, this]
theorem AOp.panic {x : Operand} {t : TypeId} {c : Value} (hx : aeval af x = some (.val (.iface t c))) : AOp P ⟨d, .panic x, T, ps, es, gd⟩ af ah (fun e h => e = .pan (.val (.iface t c)) ∧ h = ah) := .mk fun Fr a w hst hf => by
 have hv := conc_rel (aeval_rel hf hx) rfl
 have hrun : (execOp a.eval ⟨d, .panic x, T, ps, es, gd⟩).run P w = .halt (.panic (.iface t c)) w := by
  simp [execOp, Instr.panic, hv, goPanic, Sem.run]
 rw [hrun]
 exact ⟨_, _, ⟨rfl, rfl⟩, ⟨_, rfl, by simp [RelC], by simp [Shape]⟩, hst, Ext.refl _ _, fun _ _ _ h => h⟩
end
section
variable {C : Cx} {ds : List Deferred} {ks : List K} {af : AF} {ah : AH} {ops : Array Oper} {rest : List Oper}
theorem AL.panic {x : Operand} {t T : TypeId} {c : Value} {dd : Option Tmp} {ps : String} {es : Array Edge} (hx : aeval af x = some (.val (.iface t c))) (hd : okDst dd C.n = true) (h : APan C ds (.val (.iface t c)) ah) : AL C ds ks ops (⟨dd, .panic x, T, ps, es, none⟩ :: rest) af ah :=
 AL.step rfl hd (AOp.panic hx) (by rintro _ _ ⟨e, _⟩; cases e) (by rintro _ _ ⟨e, rfl⟩; cases e; exact h)
theorem AL.defer {y : Operand} {f : FuncId} {caps : List AV} {cs : List Value} {T : TypeId} {dd : Option Tmp} {tys : Array TypeId} {ps : String} {es : Array Edge} (hy : aeval af y = some (.fn f caps)) (hc : concs caps = some cs) (hd : okDst dd C.n = true)
  (hk : AL C ({ target := .fn (.func f) cs.toArray, args := #[] } :: ds) ks ops rest (put af dd .any) ah) (hro : C.ro = none := by rfl) : AL C ds ks ops (⟨dd, .defer ⟨.value y, #[], tys⟩, T, ps, es, none⟩ :: rest) af ah := .mk fun a w g => by
 refine wpListIn_plain rfl fun K hK => ?_
 obtain ⟨vs, hv, hr⟩ := (aeval_rel g.fr hy).fn
 obtain rfl := concs_rel hr hc
 have hrun : (execOp a.eval ⟨dd, .defer ⟨.value y, #[], tys⟩, T, ps, es, none⟩).run C.P w = .ok (.defer { target := .fn (.func f) vs.toArray, args := #[] }) w := by
  simp [execOp, resolve, hv, Deferred.ofValue]
 unfold Oper.wpIn
 refine ⟨fun _ _ => trivial, ?_⟩
 have e : (fz C.ro).round = none := hro
 rw [e, Oper.semAt_none, hrun]
 simp only [Oper.uponIn]
 refine hK _ _ (hk.out _ _ ?_)
 have g' := g.next hd (v := .any) (u := undef) ⟨by simp [RelC, undef, Value.cells], by simp [Shape]⟩ g.st (Ext.refl _ _) (fun _ _ _ h => h)
 cases dd with
 | none => exact { g' with defers := by simp [Act.put, g.defers] }
 | some t => exact { g' with defers := by simp [Act.put, g.defers] }
end
def tkB (P : Program) (T : TypeId) (g : Bool) (n : Nat) : Bool := match tkind P T with | some (g', n') => g' == g && Nat.beq n' n | none => false
theorem tkB_eq {P : Program} {T : TypeId} {g : Bool} {n : Nat} (h : tkB P T g n = true) : tkind P T = some (g, n) := by
 unfold tkB at h
 split at h
 ·rename_i g' n' e
  simp only [Bool.and_eq_true, beq_iff_eq, nbeq_iff] at h
  rw [e, h.1, h.2]
 ·cases h
inductive ResC (P : Program) (ah : AH) (af : AF) : List ResultVar → List AV → Prop
 | nil : ResC P ah af [] []
 | tmp {t : Nat} {v : AV} {rs : List ResultVar} {vs : List AV} (h : SX.get af t = some v) (hs : ResC P ah af rs vs) : ResC P ah af (.tmp t :: rs) (v :: vs)
 | cell (i : Nat) {b t k : Nat} {c : AV} {rs : List ResultVar} {vs : List AV} (h : SX.get af b = some (.ref k 0)) (hi : ah[i]? = some (.box k c)) (hc : (!c.isAny && tkB P t c.isSt c.size) = true) (hs : ResC P ah af rs vs) : ResC P ah af (.cell b t :: rs) (c :: vs)
def resv : List AV → AV | [x] => x | vs => .tup vs
theorem ResC.run {P : Program} {S : Rg} {w : World} {af : AF} {ah : AH} {a : Act} (hf : AFRel S w af a) (ho : ∀ x ∈ ah, OwnRel S w x) {rs : List ResultVar} {vs : List AV} (h : ResC P ah af rs vs) :
  ∃ us : List Value, (rs.mapM (rvRun a.tmps)).run P w = .ok us w ∧ RelVs S w vs us := by
 induction h with
 | nil => exact ⟨[], by simp [List.mapM_nil], by simp [RelVs]⟩
 | @tmp t v rs vs hv hvs ih =>
  obtain ⟨us, h1, h2⟩ := ih
  refine ⟨a.tmps.getD t undef :: us, ?_, by simp only [RelVs]; exact ⟨_, us, rfl, (hf t v hv).1, (hf t v hv).2, h2⟩⟩
  simp only [List.mapM_cons, rvRun, Sem.run_bind, Sem.run_pure, Result.andThen_ok, h1]
 | @cell i b t k c rs vs hk hi hc hvs ih =>
  simp only [Bool.and_eq_true, Bool.not_eq_true'] at hc
  obtain ⟨us, h1, h2⟩ := ih
  obtain ⟨cs, tt, hh, hr⟩ := ho _ (List.mem_of_getElem? hi)
  obtain ⟨u, hu, hru⟩ := run_loadVar (P := P) (w := w) (b := k) (o := 0) hc.1 (tkB_eq hc.2) hr (fun j v hv => by rw [cell_of_row w k _ cs tt (0, 0) hh]; simpa using hv)
  refine ⟨u :: us, ?_, by simp only [RelVs]; exact ⟨_, us, rfl, hru.1, hru.2, h2⟩⟩
  have hp : a.tmps.getD b undef = .pointer (some ⟨k, 0, none⟩) := (hf b _ hk).ref
  have h0 : (rvRun a.tmps (.cell b t)).run P w = .ok u w := by
   simp only [rvRun, hp, asAddr, Sem.run_bind, Sem.run_pure, Result.andThen_ok]
   exact hu
  simp only [List.mapM_cons, Sem.run_bind, Sem.run_pure, Result.andThen_ok, h0, h1]
theorem resultsC_run {P : Program} {fn : Func} {S : Rg} {w : World} {af : AF} {ah : AH} {a : Act} {vs : List AV} (hf : AFRel S w af a) (ho : ∀ x ∈ ah, OwnRel S w x) (h : ResC P ah af fn.results.toList vs) : ∃ u, (results fn a.tmps).run P w = .ok u w ∧ Rel S w (resv vs) u := by
 obtain ⟨us, h1, h2⟩ := ResC.run (P := P) hf ho h
 have h1' : (results fn a.tmps).run P w = .ok (if h : us.toArray.size = 1 then us.toArray[0] else .tuple us.toArray) w := by
  rw [results_eq, Array.mapM_eq_mapM_toList]
  simp only [Sem.run_bind, Sem.run_map, Sem.run_pure, Result.andThen_ok, h1]
 match vs, h2 with
 | [x], h2 =>
  simp only [RelVs] at h2
  obtain ⟨u, us', rfl, h3, h4, rfl⟩ := h2
  exact ⟨u, by simpa using h1', h3, h4⟩
 | [], h2 =>
  simp only [RelVs] at h2
  subst h2
  exact ⟨_, by simpa using h1', by simp [resv, RelC, RelVs, Value.cells], by simp [resv, Shape]⟩
 | x :: y :: zs, h2 =>
  have hlen := h2.length
  refine ⟨.tuple us.toArray, ?_, ?_, by simp [resv, Shape]⟩
  ·rw [dif_neg (by simp [hlen])] at h1'; exact h1'
  ·simp only [resv, RelC, Value.cells]; exact ⟨us, rfl, h2⟩
structure TriD (P : Program) (f : FuncId) (args : List AV) (ah : AH) (u : FrameMode) (Φ : FrameMode → AH → Prop) : Prop where
 call : Callable P f
 out : ∀ Fr w vs, St Fr ah w → RelVs (Sof Fr ah) w args vs → CallsD P f vs.toArray u w fun e u' w' => (∃ v, e = .returned v) ∧ ∃ ah', Φ u' ah' ∧ St Fr ah' w' ∧ Ext (reg ah) w w' ∧ ∀ b o, b < w.heap.size → reg ah' b o → reg ah b o
theorem TriD.enter {P : Program} {f : FuncId} {args : List AV} {ah : AH} {u : FrameMode} {Φ : AH → Prop} {fn : Func} {c : Code} (n : Nat) (hf : P.funcs[f]? = some fn) (hb : fn.body = some c)
  (hname : (fn.name == "runtime.NumGoroutine") = false) (hn : fn.ntmps = n) (hl : Nat.ble args.length n = true)
  (h : ∀ Fr w0, AW (Cof P fn n Fr (reg ah) w0 (fun x h => (∃ v, x = .ret v) ∧ Φ h)) [] [.c c] (enumFrom 0 args) ah) : TriD P f args ah u (fun u' h => u' = u ∧ Φ h) := by
 refine ⟨⟨fn, hf, hname, by rw [hb]; rfl⟩, fun Fr w vs hst hrel => ?_⟩
 have hlen := hrel.length
 have hl' : args.length ≤ n := by simpa using hl
 have hwp := (h Fr w).out { tmps := vs.toArray ++ Array.replicate (fn.ntmps - vs.toArray.size) undef, defers := [] } w ⟨by simp [hn]; omega, rfl, hst, Ext.refl _ _, fun _ _ _ h => h, ?_⟩
 ·have hwp : Code.wpIn (fz none) 0 P c (bodyPost P fn (EndR Fr (reg ah) w (fun x h => (∃ v, x = .ret v) ∧ Φ h))) { tmps := vs.toArray ++ Array.replicate (fn.ntmps - vs.toArray.size) undef, defers := [] } w := by simpa only [hnd] using hwp
  refine (callsD_of_wp (u := u) hf hb ((wpIn_wide (n := 0)).1 hwp)).mono fun e u' w' ⟨hu, x, ah', ⟨⟨v, hx⟩, hΦ⟩, he, hst', hext, hnew⟩ => ?_
  subst hx
  obtain ⟨v', hv', _⟩ := he
  exact ⟨⟨v', hv'⟩, ah', ⟨hu, hΦ⟩, hst', hext, hnew⟩
 ·intro i v hi
  obtain ⟨_, hx⟩ := get_enumFrom args 0 i v hi
  obtain ⟨u, hu, hr⟩ := hrel.get i v (by simpa using hx)
  have : (vs.toArray ++ Array.replicate (fn.ntmps - vs.toArray.size) undef).getD i undef = u := by
   have hlt : i < vs.length := (List.getElem?_eq_some_iff.1 hu).1
   rw [Array.getD_eq_getD_getElem?, Array.getElem?_append_left (by simpa using hlt)]
   simp [hu]
  rw [this]; exact hr
theorem conc_mk {S : Rg} {w : World} {x : AV} {c : Value} (hc : conc x = some c) : Rel S w x c := by
 cases x <;> simp only [conc, Option.some.injEq] at hc <;> try cases hc
 all_goals first
  | exact ⟨by simp [RelC, Value.cells], by simp [Shape]⟩
  | exact ⟨by simp [RelC], by simp [Shape]⟩
theorem concs_mk {S : Rg} {w : World} : ∀ {xs : List AV} {cs : List Value}, concs xs = some cs → RelVs S w xs cs
 | [], cs, hc => by simp only [concs, Option.some.injEq] at hc; subst hc; simp [RelVs]
 | x :: xs, cs, hc => by
  simp only [concs] at hc
  split at hc
  ·rename_i c cs' e1 e2
   obtain rfl := Option.some.inj hc
   simp only [RelVs]
   exact ⟨c, cs', rfl, (conc_mk (S := S) (w := w) e1).1, (conc_mk (S := S) (w := w) e1).2, concs_mk e2⟩
  ·cases hc
theorem TriD.frame {P : Program} {f : FuncId} {args : List AV} {ah : AH} {u : FrameMode} {Φ : FrameMode → AH → Prop} (m : List Bool) (h : TriD P f args (sel m ah) u Φ) :
  TriD P f args ah u (fun u' h => ∃ h1, Φ u' h1 ∧ h = h1 ++ uns m ah) := by
 refine ⟨h.1, fun Fr w vs hst hrel => ?_⟩
 have hp := sel_perm m ah
 have s := hst.perm hp.symm
 refine (h.2 (Sof Fr (uns m ah)) w vs s.part ?_).mono fun e u' w' ⟨he, ah', hΦ, hst', hext, hnew⟩ => ⟨he, ?_⟩
 ·rw [sof_part]
  exact RelVs.mv (Mv.same w fun b o hs => hs.elim .inl fun h' => .inr ((reg_perm hp).1 h')) _ _ hrel
 ·have h1 : EndR (Sof Fr (uns m ah)) (reg (sel m ah)) w (fun x h => x = .ret .any ∧ h = ah') (.returned undef) w' := ⟨_, _, ⟨rfl, rfl⟩, ⟨_, rfl, by simp [RelC, undef, Value.cells], by simp [Shape]⟩, hst', hext, hnew⟩
  obtain ⟨x, h2, ⟨h3, ⟨_, rfl⟩, rfl⟩, _, k1, k2, k3⟩ := (EndR.frame s h1).perm fun b o => reg_perm hp
  exact ⟨_, ⟨_, hΦ, rfl⟩, k1, k2, k3⟩
abbrev CofD (P : Program) (fn : Func) (n : Nat) (Fr R0 : Rg) (w0 : World) (Φ : AEnd → AH → Prop) : Cx := { P, n, Fr, R0, w0, R := bodyPostD P fn (EndR Fr R0 w0 Φ) }
theorem Tri.enterD {P : Program} {f : FuncId} {args : List AV} {ah : AH} {Φ : AEnd → AH → Prop} {fn : Func} {c : Code} (n : Nat) (hf : P.funcs[f]? = some fn) (hb : fn.body = some c)
  (hname : (fn.name == "runtime.NumGoroutine") = false) (hn : fn.ntmps = n) (hl : Nat.ble args.length n = true)
  (h : ∀ Fr w0, AW (CofD P fn n Fr (reg ah) w0 Φ) [] [.c c] (enumFrom 0 args) ah) : Tri P f args ah Φ := by
 refine ⟨⟨fn, hf, hname, by rw [hb]; rfl⟩, fun Fr w vs hst hrel => calls_of_wp_defers hf hb ((wpIn_wide (n := 0)).1 ?_)⟩
 have hlen := hrel.length
 have hl' : args.length ≤ n := by simpa using hl
 have := (h Fr w).out { tmps := vs.toArray ++ Array.replicate (fn.ntmps - vs.toArray.size) undef, defers := [] } w ⟨by simp [hn]; omega, rfl, hst, Ext.refl _ _, fun _ _ _ h => h, ?_⟩
 ·have h2 : Code.wpIn (fz none) 0 P c (bodyPostD P fn (EndR Fr (reg ah) w Φ)) { tmps := vs.toArray ++ Array.replicate (fn.ntmps - vs.toArray.size) undef, defers := [] } w := by simpa only [hnd] using this
  exact h2
 ·intro i v hi
  obtain ⟨_, hx⟩ := get_enumFrom args 0 i v hi
  obtain ⟨u, hu, hr⟩ := hrel.get i v (by simpa using hx)
  have : (vs.toArray ++ Array.replicate (fn.ntmps - vs.toArray.size) undef).getD i undef = u := by
   have hlt : i < vs.length := (List.getElem?_eq_some_iff.1 hu).1
   rw [Array.getD_eq_getD_getElem?, Array.getElem?_append_left (by simpa using hlt)]
   simp [hu]
  rw [this]; exact hr
section
variable {P : Program} {fn : Func} {n : Nat} {Fr R0 : Rg} {w0 : World} {Φ : AEnd → AH → Prop} {ks : List K} {af : AF} {ah : AH} {ds : List Deferred}
theorem leave0 {a : Act} {w : World} {vs : List AV} (g : Good (CofD P fn n Fr R0 w0 Φ) ds af ah a w) (hr : ResC P ah af fn.results.toList vs) (hΦ : Φ (.ret (resv vs)) ah) : Leaves P fn a.tmps (EndR Fr R0 w0 Φ) [] .returning w := by
 obtain ⟨u, h1, h2⟩ := resultsC_run (P := P) g.fr g.st.rel hr
 exact ⟨u, h1, _, _, hΦ, ⟨u, rfl, h2⟩, g.st, g.ext, g.old⟩
theorem AW.retD0 {vs : List AV} (hr : ResC P ah af fn.results.toList vs) (hΦ : Φ (.ret (resv vs)) ah) : AW (CofD P fn n Fr R0 w0 Φ) [] (.c .ret :: ks) af ah := AW.ret fun a w g => by
 show Leaves _ _ _ _ a.defers _ _
 rw [g.defers]; exact leave0 g hr hΦ
theorem AW.doneD0 {vs : List AV} (hr : ResC P ah af fn.results.toList vs) (hΦ : Φ (.ret (resv vs)) ah) : AW (CofD P fn n Fr R0 w0 Φ) [] [] af ah := AW.done fun a w g => by
 show Leaves _ _ _ _ a.defers _ _
 rw [g.defers]; exact leave0 g hr hΦ
end
theorem get_lt' {α : Type} {l : List α} {k : Nat} (h : k < l.length) : ∃ x, l[k]? = some x := ⟨l[k], List.getElem?_eq_getElem h⟩
def seenOf (g : MG) (idx : List Nat) : List Nat := idx.map fun k => g.bs.getD k 0
theorem nodup_inj {l : List Nat} (h : l.Nodup) (i j : Nat) (hi : i < l.length) (hj : j < l.length) (e : l[i] = l[j]) : i = j := by
 rcases Nat.lt_trichotomy i j with h1 | h1 | h1
 ·exact absurd e (List.pairwise_iff_getElem.1 h i j hi hj h1)
 ·exact h1
 ·exact absurd e.symm (List.pairwise_iff_getElem.1 h j i hj hi h1)
theorem run_next_at {P : Program} (w : World) (ty : TypeId) (r bm clk : Nat) (seen : Array Nat) (es : Array MapEntry) (hr : w.heap[r]? = some (.mapIter (some bm) clk seen clk)) (hb : w.heap[bm]? = some (.map es clk)) (hold : ∀ x ∈ es.toList, x.born < clk) :
  ((leftOf es seen).size = 0 ∧ (Instr.next (.pointer (some ⟨r, 0, none⟩)) false ty).run P w = .ok (.tuple #[.bool false]) w) ∨
  ∃ e ∈ (leftOf es seen).toList, ∃ w1 : World, (w1 = w ∨ w1 = w.drew) ∧ (Instr.next (.pointer (some ⟨r, 0, none⟩)) false ty).run P w = .ok (.tuple #[.bool true, e.key, e.val]) { w1 with heap := w1.heap.setIfInBounds r (.mapIter (some bm) clk (seen.push e.born) clk) } := by
 simp only [Instr.next, getObj, Sem.run_bind, Sem.run, hr, hb, Result.andThen, next_test_false seen es clk clk hold (Nat.le_refl _), Bool.false_eq_true, if_false]
 unfold leftOf
 have hmem : ∀ x ∈ (Array.filter (fun e => !seen.contains e.born) es).toList, x.born < clk := fun x hx => hold x (by simp at hx ⊢; exact hx.1)
 generalize Array.filter (fun e => !seen.contains e.born) es = L at hmem ⊢
 have e1 : L.filter (fun x => decide (x.born < clk)) = L := Array.filter_eq_self.2 (fun x hx => by simpa using hmem x (by simpa using hx))
 have e2 : L.filter (fun x => decide (x.born ≥ clk)) = #[] := by
  rw [Array.filter_eq_empty_iff]
  intro x hx
  have := hmem x (by simpa using hx)
  simp
  omega
 simp only [e1, e2, Array.append_empty]
 by_cases h0 : L.size = 0
 ·left
  have : L = #[] := Array.eq_empty_of_size_eq_zero h0
  subst this
  refine ⟨rfl, ?_⟩
  simp [choose, Sem.run, Question.forced]
 ·right
  have hne : L.isEmpty = false := by simp [Array.isEmpty, h0]
  simp only [hne, Bool.false_eq_true, if_false, Array.empty_append, Array.size_map]
  have hch : ∃ (j : Nat) (w1 : World), j < L.size ∧ (w1 = w ∨ w1 = w.drew) ∧ (choose (Question.mapNext L.size)).run P w = .ok j w1 := by
   by_cases hf : L.size ≤ 1
   ·exact ⟨0, w, by omega, .inl rfl, by simp [choose, Sem.run, Question.forced, hf]⟩
   ·exact ⟨_, w.drew, Nat.mod_lt _ (by omega), .inr rfl, by
     simp only [choose, Sem.run, Question.forced, decide_eq_true_eq, hf, if_false, Question.cut]
     rfl⟩
  obtain ⟨j, w1, hj, hal, hrun⟩ := hch
  refine ⟨L[j], by simp, w1, hal, ?_⟩
  have hw1 : w1.heap[r]? = some (.mapIter (some bm) clk seen clk) := by rcases hal with rfl | rfl <;> exact hr
  have hset : ∀ (o' : Obj), (setObj r o').run P w1 = .ok () { w1 with heap := w1.heap.setIfInBounds r o' } := fun o' => by simp [setObj, Sem.run, hw1]
  simp only [hrun, Array.getElem?_map, Array.getElem?_eq_getElem hj, Option.map_some, Sem.run_bind, hset, Result.andThen]
  rfl
theorem run_entry_at {P : Program} (w : World) (r bm clk : Nat) (seen : Array Nat) (es : Array MapEntry) (e : MapEntry) (hr : w.heap[r]? = some (.mapIter (some bm) clk (seen.push e.born) clk)) (hb : w.heap[bm]? = some (.map es clk)) (he : e ∈ es.toList) (hn : (es.toList.map (·.born)).Nodup) :
  (Instr.entry (.pointer (some ⟨r, 0, none⟩))).run P w = .ok (.tuple #[e.key, e.val]) w := by
 have hf : es.find? (·.born == e.born) = some e := by rw [← Array.find?_toList]; exact find_born e es.toList hn he
 simp only [Instr.entry, getObj, Sem.run_bind, Sem.run, hr, hb, Result.andThen, Array.back?_push, bne_self_eq_false, Bool.false_eq_true, if_false, hf]
 rfl
theorem set_objE {w : World} {b : Nat} {o o' : Obj} (h : w.heap[b]? = some o) (hc : ∀ cs t z, o ≠ .cells cs t z) : Ext (fun b' _ => b' = b) w { w with heap := w.heap.setIfInBounds b o' } := by
 have hk : ∀ k, k ≠ b → (w.heap.setIfInBounds b o')[k]? = w.heap[k]? := fun k hk => by rw [Array.getElem?_setIfInBounds, if_neg (fun e => hk e.symm)]
 refine ⟨rfl, rfl, rfl, by simp, fun k _ hr => hk k (hr 0), fun a v hc hr => ?_⟩
 exact (World.cell?_of_block (w' := { w with heap := w.heap.setIfInBounds b o' }) (hk a.block hr)).trans hc
section
variable {P : Program} {af : AF} {ah : AH}
variable {d : Option Tmp} {T : TypeId} {ps : String} {es : Array Edge} {gd : Option (Nat × Bool)}
theorem AOp.range {x : Operand} {b i : Nat} {kv : List (AV × AV)} {g : MG} {t e : TypeId} {kd : TypeDesc} (hx : aeval af x = some (.map b)) (hi : ah[i]? = some (.map b kv g)) (ht : mapTy P t = some (kd, e)) :
  AOp P ⟨d, .range t x, T, ps, es, gd⟩ af ah (fun r h => ∃ it, r = .ret (.ref it 0) ∧ h = .iter it b g.clk [] :: ah) := .mk fun Fr a w hst hf => by
 obtain ⟨kt, hu, hkt⟩ := mapTy_parts ht
 obtain ⟨es, h1, _⟩ := own_map (hst.rel _ (List.mem_of_getElem? hi))
 have hrun : (execOp a.eval ⟨d, .range t x, T, ps, ‹Array Edge›, gd⟩).run P w = .ok (.value (.pointer (some ⟨w.heap.size, 0, none⟩))) (w.alloc (.mapIter (some b) g.clk #[] g.clk)) := by
  simp [execOp, (aeval_rel hf hx).map, run_range_map w t kt e b es g.clk hu h1]
 rw [hrun]
 have hx' : Ext (fun _ _ => False) w (w.alloc (.mapIter (some b) g.clk #[] g.clk)) := Ext.alloc _ _ _
 obtain ⟨k1, k2, k3⟩ := hst.cons (x := .iter w.heap.size b g.clk []) (b := w.heap.size) rfl (Nat.le_refl _) (by simp) hx' (fun m => heap_alloc_new w _)
 exact ⟨_, _, ⟨_, rfl, rfl⟩, ⟨_, rfl, mk_ref⟩, k1, k2, k3⟩
theorem AOp.next {x : Operand} {it b i j : Nat} {kv : List (AV × AV)} {g : MG} {idx : List Nat} (hx : aeval af x = some (.ref it 0)) (hj : ah[j]? = some (.iter it b g.clk (seenOf g idx))) (hi : ah[i]? = some (.map b kv g)) (hidx : ∀ k ∈ idx, k < kv.length) :
  AOp P ⟨d, .next x false, T, ps, es, gd⟩ af ah (fun r h => ((∀ k, k < kv.length → k ∈ idx) ∧ r = .ret (.tup [.bool false]) ∧ h = ah) ∨
   ∃ k key v, k ∉ idx ∧ kv[k]? = some (key, v) ∧ r = .ret (.tup [.bool true, key, v]) ∧ h = ah.set j (.iter it b g.clk (seenOf g (idx ++ [k])))) := .mk fun Fr a w hst hf => by
 have hjm := List.mem_of_getElem? hj
 have hit : w.heap[it]? = some (.mapIter (some b) g.clk (seenOf g idx).toArray g.clk) := hst.rel _ hjm
 obtain ⟨es, h1, h2, h3, h4, h5, h6⟩ := own_map (hst.rel _ (List.mem_of_getElem? hi))
 have hold : ∀ x ∈ es.toList, x.born < g.clk := fun x hx => h5 _ (by rw [← h2]; exact List.mem_map.2 ⟨x, hx, rfl⟩)
 have hbl : g.bs.length = kv.length := by rw [← h2, List.length_map, Array.length_toList, h3]
 have hbg : ∀ (k : Nat) (en : MapEntry), es[k]? = some en → g.bs.getD k 0 = en.born := fun k en he => by
  rw [← h2, List.getD_eq_getElem?_getD, List.getElem?_map, Array.getElem?_toList, he]; rfl
 have hinj : ∀ k l, k < kv.length → l < kv.length → g.bs.getD k 0 = g.bs.getD l 0 → k = l := fun k l hk hl he => by
  rw [List.getD_eq_getElem?_getD, List.getD_eq_getElem?_getD, List.getElem?_eq_getElem (by omega), List.getElem?_eq_getElem (by omega)] at he
  simp only [Option.getD_some] at he
  exact (nodup_inj h6 k l (by omega) (by omega) he)
 rcases run_next_at (P := P) w T it b g.clk (seenOf g idx).toArray es hit h1 hold with ⟨h0, hrun⟩ | ⟨en, hen, w1, hw1, hrun⟩
 ·have hexec : (execOp a.eval ⟨d, .next x false, T, ps, ‹Array Edge›, gd⟩).run P w = .ok (.value (.tuple #[.bool false])) w := by
   simp [execOp, (aeval_rel hf hx).ref, hrun]
  rw [hexec]
  refine ⟨.ret (.tup [.bool false]), ah, .inl ⟨fun k hk => ?_, rfl, rfl⟩, ⟨_, rfl, ?_, by simp [Shape]⟩, hst, Ext.refl _ _, fun _ _ _ h => h⟩
  ·obtain ⟨⟨key, v⟩, hkv⟩ := get_lt' hk
   obtain ⟨en, he, _⟩ := h4 k key v hkv
   have hnot : en ∉ (leftOf es (seenOf g idx).toArray).toList := fun h => by
    have := Array.eq_empty_of_size_eq_zero h0
    rw [this] at h; simp at h
   have hmem : en.born ∈ seenOf g idx := by
    by_cases hc : en.born ∈ seenOf g idx
    ·exact hc
    ·exact absurd (by simp [leftOf, hc]; exact Array.mem_of_getElem? he) hnot
   obtain ⟨l, hl, hle⟩ := List.mem_map.1 hmem
   have : k = l := hinj k l hk (hidx l hl) (by rw [hbg k en he, hle])
   subst this; exact hl
  ·simp only [RelC, Value.cells]
   refine ⟨[.bool false], rfl, ?_⟩
   simp only [RelVs]
   exact ⟨_, _, rfl, by simp [RelC, Value.cells], by simp [Shape], rfl⟩
 ·have hin : en ∈ es.toList ∧ en.born ∉ seenOf g idx := by simpa [leftOf] using hen
  obtain ⟨k, hk⟩ := List.getElem?_of_mem hin.1
  have hk' : es[k]? = some en := by simpa using hk
  have hkl : k < kv.length := by have := (Array.getElem?_eq_some_iff.1 hk').1; omega
  obtain ⟨⟨key, v⟩, hkv⟩ := get_lt' hkl
  obtain ⟨en', he', hkey, hval⟩ := h4 k key v hkv
  rw [hk'] at he'
  obtain rfl := Option.some.inj he'
  have hexec : (execOp a.eval ⟨d, .next x false, T, ps, ‹Array Edge›, gd⟩).run P w = .ok (.value (.tuple #[.bool true, en.key, en.val])) { w1 with heap := w1.heap.setIfInBounds it (.mapIter (some b) g.clk ((seenOf g idx).toArray.push en.born) g.clk) } := by
   simp [execOp, (aeval_rel hf hx).ref, hrun]
  rw [hexec]
  have hw1h : w1.heap = w.heap := by rcases hw1 with rfl | rfl <;> rfl
  have hext0 : Ext (fun b' _ => b' = it) w { w1 with heap := w1.heap.setIfInBounds it (.mapIter (some b) g.clk ((seenOf g idx).toArray.push en.born) g.clk) } := by
   have e := set_objE (o' := .mapIter (some b) g.clk ((seenOf g idx).toArray.push en.born) g.clk) hit (by intro _ _ _ h; cases h)
   rcases hw1 with rfl | rfl
   ·exact e
   ·exact ⟨e.os, e.tape, e.output, e.size, e.blk, fun a v hc hr => e.cell a v hc hr⟩
  obtain ⟨k1, k2, k3⟩ := hst.update (x' := .iter it b g.clk (seenOf g (idx ++ [k]))) hj hext0 (fun _ h => .inl h) (fun _ _ _ h => h) (fun k' hk' => by simp only [Own.blk, Option.some.injEq] at hk'; subst hk'; exact Nat.lt_of_lt_of_le (hst.lt _ hjm it rfl) hext0.size) (fun m => by
   show _ = _
   have hlt : it < w1.heap.size := by rw [hw1h]; exact hst.lt _ hjm it rfl
   simp only [Array.getElem?_setIfInBounds, if_true, hlt]
   congr 2
   simp [seenOf, ← hbg k en hk'])
  have m := Mv.of_ext (Fr := Fr) (ah' := ah.set j (.iter it b g.clk (seenOf g (idx ++ [k])))) k2 (fun _ _ h => h) k3
  refine ⟨.ret (.tup [.bool true, key, v]), _, .inr ⟨k, key, v, fun hki => hin.2 ?_, hkv, rfl, rfl⟩, ⟨_, rfl, ?_, by simp [Shape]⟩, k1, k2, k3⟩
  ·rw [← hbg k en hk']; exact List.mem_map.2 ⟨k, hki, rfl⟩
  ·show RelC _ _ (.tup _) [_]
   simp only [RelC]
   refine ⟨[.bool true, en.key, en.val], rfl, ?_⟩
   simp only [RelVs]
   exact ⟨_, _, rfl, by simp [RelC, Value.cells], by simp [Shape], _, _, rfl, (hkey.mv m).1, (hkey.mv m).2, _, _, rfl, (hval.mv m).1, (hval.mv m).2, rfl⟩
theorem AOp.entry {x : Operand} {it b i j k : Nat} {kv : List (AV × AV)} {g : MG} {idx : List Nat} {key v : AV} (hx : aeval af x = some (.ref it 0)) (hj : ah[j]? = some (.iter it b g.clk (seenOf g (idx ++ [k])))) (hi : ah[i]? = some (.map b kv g)) (hk : kv[k]? = some (key, v)) :
  AOp P ⟨d, .entry x, T, ps, es, gd⟩ af ah (D (.tup [key, v]) ah) := AOp.of_pure fun S a w hf hown => by
 have hit : w.heap[it]? = some (.mapIter (some b) g.clk (seenOf g (idx ++ [k])).toArray g.clk) := hown _ (List.mem_of_getElem? hj)
 obtain ⟨es, h1, h2, h3, h4, h5, h6⟩ := own_map (hown _ (List.mem_of_getElem? hi))
 obtain ⟨en, he, hkey, hval⟩ := h4 k key v hk
 have hb : g.bs.getD k 0 = en.born := by
  rw [← h2, List.getD_eq_getElem?_getD, List.getElem?_map, Array.getElem?_toList, he]; rfl
 have hit' : w.heap[it]? = some (.mapIter (some b) g.clk ((seenOf g idx).toArray.push en.born) g.clk) := by
  rw [hit]; simp [seenOf, ← hb]
 have hrun := run_entry_at (P := P) w it b g.clk (seenOf g idx).toArray es en hit' h1 (by simpa using Array.mem_of_getElem? he) (by rw [h2]; exact h6)
 refine ⟨.tuple #[en.key, en.val], by simp [execOp, (aeval_rel hf hx).ref, hrun], ?_, by simp [Shape]⟩
 show RelC _ _ (.tup _) [_]
 simp only [RelC]
 refine ⟨[en.key, en.val], rfl, ?_⟩
 simp only [RelVs]
 exact ⟨_, _, rfl, hkey.1, hkey.2, _, _, rfl, hval.1, hval.2, rfl⟩
end
section
variable {C : Cx} {ds : List Deferred} {ks : List K} {af : AF} {ah : AH} {ops : Array Oper} {rest : List Oper}
theorem get_split {t : Nat} {b c : Bool} (h : get af t = some (.bool b)) (hb : b = c) (i : Nat) : get ((t, .bool c) :: af) i = get af i := by
 subst hb
 rw [get_cons]
 by_cases e : t = i
 ·subst e; rw [if_pos rfl, h]
 ·rw [if_neg e]
theorem AL.weaken {af' : AF} (h : AL C ds ks ops rest af' ah) (hf : ∀ i v, get af' i = some v → get af i = some v) : AL C ds ks ops rest af ah :=
 ⟨fun a w g => h.out a w { g with fr := fun i v hi => g.fr i v (hf i v hi) }⟩
theorem AL.split (t : Nat) {b : Bool} (h : get af t = some (.bool b)) (ht : b = true → AL C ds ks ops rest ((t, .bool true) :: af) ah) (hf : b = false → AL C ds ks ops rest ((t, .bool false) :: af) ah) : AL C ds ks ops rest af ah := by
 cases hb : b with
 | true => exact (ht hb).weaken fun i v hi => by rwa [get_split h hb] at hi
 | false => exact (hf hb).weaken fun i v hi => by rwa [get_split h hb] at hi
theorem AW.split (t : Nat) {b : Bool} (h : get af t = some (.bool b)) (ht : b = true → AW C ds ks ((t, .bool true) :: af) ah) (hf : b = false → AW C ds ks ((t, .bool false) :: af) ah) : AW C ds ks af ah := by
 cases hb : b with
 | true => exact (ht hb).weaken fun i v hi => by rwa [get_split h hb] at hi
 | false => exact (hf hb).weaken fun i v hi => by rwa [get_split h hb] at hi
theorem AL.guard_split {o : Oper} {g t : Nat} {b c : Bool} (hg : o.guard = some (g, c)) (ht : (ops[g]?).bind (·.dst) = some t) (h : get af t = some (.bool b)) (h1 : b = true → AL C ds ks ops (o :: rest) ((t, .bool true) :: af) ah) (h2 : b = false → AL C ds ks ops (o :: rest) ((t, .bool false) :: af) ah) :
  AL C ds ks ops (o :: rest) af ah := AL.split t h h1 h2
theorem AW.kcongr {f g : AF} (h : ∀ i, get f i = get g i) (k : AW C ds ks f ah) : AW C ds ks g ah := k.weaken fun i v hi => by rwa [← h]
theorem AL.kcongr {f g : AF} (h : ∀ i, get f i = get g i) (k : AL C ds ks ops rest f ah) : AL C ds ks ops rest g ah := k.weaken fun i v hi => by rwa [← h]
theorem get_put_congr {f g : AF} (h : ∀ i, get f i = get g i) (d : Option Tmp) (v : AV) (i : Nat) : get (put f d v) i = get (put g d v) i := by
 cases d with
 | none => exact h i
 | some d => simp only [put, get_cons]; split <;> simp [h]
theorem fold_congr : ∀ (l : List (Oper × AV)) {f g : AF}, (∀ i, get f i = get g i) → ∀ i, get (l.foldl (fun f p => put f p.1.dst p.2) f) i = get (l.foldl (fun f p => put f p.1.dst p.2) g) i
 | [], _, _, h => h
 | p :: l, f, g, h => fold_congr l (get_put_congr h _ _)
theorem AQ.congr {P : Program} {K : AF → Prop} {f g : AF} (hK : ∀ f g, (∀ i, get f i = get g i) → K f → K g) (h : ∀ i, get f i = get g i) (k : AQ P ops ah rest f K) : AQ P ops ah rest g K := by
 obtain ⟨vs, h1, h2, h3⟩ := k.out
 refine ⟨vs, h1, hK _ _ (fold_congr _ h) h2, fun i o v ho hv => ?_⟩
 have := h3 i o v ho hv
 unfold QStep at this ⊢
 rwa [keep_congr (is := oslots ops o) fun j _ => fold_congr ((rest.zip vs).take i) h j] at this
theorem AQ.split_w (t : Nat) {b : Bool} {af : AF} {rs : List Oper} (h : get af t = some (.bool b)) (h1 : b = true → AQ C.P ops ah rs ((t, .bool true) :: af) (fun af' => AW C ds ks af' ah)) (h2 : b = false → AQ C.P ops ah rs ((t, .bool false) :: af) (fun af' => AW C ds ks af' ah)) :
  AQ C.P ops ah rs af (fun af' => AW C ds ks af' ah) := by
 cases hb : b with
 | true => exact (h1 hb).congr (fun _ _ h k => AW.kcongr h k) (get_split h hb)
 | false => exact (h2 hb).congr (fun _ _ h k => AW.kcongr h k) (get_split h hb)
theorem AQ.split_l (t : Nat) {b : Bool} {af : AF} {rs : List Oper} (h : get af t = some (.bool b)) (h1 : b = true → AQ C.P ops ah rs ((t, .bool true) :: af) (fun af' => AL C ds ks ops rest af' ah)) (h2 : b = false → AQ C.P ops ah rs ((t, .bool false) :: af) (fun af' => AL C ds ks ops rest af' ah)) :
  AQ C.P ops ah rs af (fun af' => AL C ds ks ops rest af' ah) := by
 cases hb : b with
 | true => exact (h1 hb).congr (fun _ _ h k => AL.kcongr h k) (get_split h hb)
 | false => exact (h2 hb).congr (fun _ _ h k => AL.kcongr h k) (get_split h hb)
theorem AQ.gsplit_w {o : Oper} {g t : Nat} {b c : Bool} {af : AF} {rs : List Oper} (hg : o.guard = some (g, c)) (ht : dstOf ops g = some t) (h : get af t = some (.bool b)) (h1 : b = true → AQ C.P ops ah (o :: rs) ((t, .bool true) :: af) (fun af' => AW C ds ks af' ah)) (h2 : b = false → AQ C.P ops ah (o :: rs) ((t, .bool false) :: af) (fun af' => AW C ds ks af' ah)) :
  AQ C.P ops ah (o :: rs) af (fun af' => AW C ds ks af' ah) := AQ.split_w t h h1 h2
theorem AQ.gsplit_l {o : Oper} {g t : Nat} {b c : Bool} {af : AF} {rs : List Oper} (hg : o.guard = some (g, c)) (ht : dstOf ops g = some t) (h : get af t = some (.bool b)) (h1 : b = true → AQ C.P ops ah (o :: rs) ((t, .bool true) :: af) (fun af' => AL C ds ks ops rest af' ah)) (h2 : b = false → AQ C.P ops ah (o :: rs) ((t, .bool false) :: af) (fun af' => AL C ds ks ops rest af' ah)) :
  AQ C.P ops ah (o :: rs) af (fun af' => AL C ds ks ops rest af' ah) := AQ.split_l t h h1 h2
theorem AQ.ev {P : Program} {K : AF → Prop} {o : Oper} {v : AV} {d : Nat} {af' : AF} (hkp : keep (oslots ops o) af = af') (h : evalOp af' o.op = some v) (hg : o.guard = none) (hd : o.dst = some d) (k : AQ P ops ah rest ((d, v) :: af) K) : AQ P ops ah (o :: rest) af K :=
 AQ.op hkp (AOp.ev h) hg hd k
theorem AQ.gev {P : Program} {K : AF → Prop} {o : Oper} {v : AV} {d : Nat} {af' : AF} (hkp : keep (oslots ops o) af = af') (h : evalOp af' o.op = some v) (hg : gdo ops af' o = some true) (hd : o.dst = some d) (k : AQ P ops ah rest ((d, v) :: af) K) : AQ P ops ah (o :: rest) af K :=
 AQ.gop hkp (AOp.ev h) hg hd k
theorem AQE.ev {P : Program} {aq aa : AH} {E : List Nat} {n : Nat} {K : List AV → Prop} {o : Oper} {v : AV} {d : Nat} {af' : AF} (hkp : keep (oslots ops o) af = af') (h : evalOp af' o.op = some v) (hg : o.guard = none) (hd : o.dst = some d) (k : AQE P ops aq aa E (n + 1) rest ((d, v) :: af) (fun us => K (v :: us))) : AQE P ops aq aa E n (o :: rest) af K :=
 AQE.op hkp (AOp.ev h) hg hd k
end
section
variable {P : Program} {af : AF} {ah : AH}
variable {d : Option Tmp} {T : TypeId} {ps : String} {es : Array Edge} {gd : Option (Nat × Bool)}
theorem AOp.load_leaf (i : Nat) {x : Operand} {b off : Nat} {c v : AV} {t : TypeId} (hx : aeval af x = some (.ref b off)) (hi : ah[i]? = some (.box b c)) (hs : c.sub off false 1 = some v) (hv : (!v.isSt && Nat.beq v.size 1) = true) (ht : tkind P t = some (false, 1)) :
  AOp P ⟨d, .load t x, T, ps, es, gd⟩ af ah (D v ah) := by
 simp only [Bool.and_eq_true, Bool.not_eq_true', nbeq_iff] at hv
 exact AOp.load_ref hx hi (by rw [hv.1, hv.2]; exact hs) (by rw [hv.1, hv.2]; exact ht)
theorem AOp.load_all (i : Nat) {x : Operand} {b : Nat} {c : AV} {t : TypeId} (hx : aeval af x = some (.ref b 0)) (hi : ah[i]? = some (.box b c)) (hs : c.sub 0 c.isSt c.size = some c) (ht : tkind P t = some (c.isSt, c.size)) :
  AOp P ⟨d, .load t x, T, ps, es, gd⟩ af ah (D c ah) := AOp.load_ref hx hi hs ht
theorem AOp.load_cell (i : Nat) {x : Operand} {b off : Nat} {xs : List AV} {v : AV} {t : TypeId} (hx : aeval af x = some (.ref b off)) (hi : ah[i]? = some (.row b xs)) (hs : xs[off]? = some v) (hv : (!v.isAny && Nat.beq v.size 1) = true)
  (ht : tkind P t = some (v.isSt, v.size)) : AOp P ⟨d, .load t x, T, ps, es, gd⟩ af ah (D v ah) := by
 simp only [Bool.and_eq_true, Bool.not_eq_true', nbeq_iff] at hv
 exact AOp.load_row hx hi hs hv.1 hv.2 ht
end
section
variable {C : Cx} {ds : List Deferred} {ks : List K} {af : AF} {ah : AH} {ops : Array Oper} {rest : List Oper}
theorem AL.store_leaf (i : Nat) {x y : Operand} {b off : Nat} {c c' v : AV} {t T : TypeId} {ps : String} {es : Array Edge} (hx : aeval af x = some (.ref b off)) (hy : aeval af y = some v) (hi : ah[i]? = some (.box b c)) (hs : c.upd off v = some c') (hok : v.cellOK = true)
  (ht : tkind C.P t = some (v.isSt, v.size)) (hk : AL C ds ks ops rest af (ah.set i (.box b c'))) : AL C ds ks ops (⟨none, .store t x y, T, ps, es, none⟩ :: rest) af ah := AL.store_box hx hy hi hs hok ht hk
theorem AL.store_cell (i : Nat) {x y : Operand} {b off : Nat} {xs : List AV} {v : AV} {t T : TypeId} {ps : String} {es : Array Edge} (hx : aeval af x = some (.ref b off)) (hy : aeval af y = some v) (hi : ah[i]? = some (.row b xs)) (hs : off < xs.length) (hok : v.cellOK = true) (hz : v.size = 1)
  (ht : tkind C.P t = some (v.isSt, v.size)) (hk : AL C ds ks ops rest af (ah.set i (.row b (xs.set off v)))) : AL C ds ks ops (⟨none, .store t x y, T, ps, es, none⟩ :: rest) af ah := AL.store_row hx hy hi hs hok hz ht hk
end
section
variable {C : Cx} {ds : List Deferred} {ks : List K} {af : AF} {ah : AH}
theorem AW.draw_last' {ops : Array Oper} {id : Nat} (n : Nat) (hm : C.P.follows .mixedOrders = true) (hd : drawOK ops = true) (hn : ops.toList.all (fun o => okDst o.dst C.n) = true) (hs : Nat.beq (n + 1) ops.size = true) (hl : lastOK ops n = true)
  (h : AQ C.P ops ah (ops.toList.take n) af (fun af' => AL C ds ks ops (ops.toList.drop n) af' ah)) : AW C ds (.c (.region id ops true) :: ks) af ah := by
 have hs' : n + 1 = ops.size := nbeq_iff.1 hs
 have hlt : n < ops.toList.length := by rw [Array.length_toList]; omega
 have e1 : ops.toList.drop n = [ops.toList[n]] := by
  rw [List.drop_eq_getElem_cons hlt, List.drop_eq_nil_of_le (by rw [Array.length_toList]; omega)]
 have e2 : ops.toList = ops.toList.take n ++ [ops.toList[n]] := by rw [← e1]; exact (List.take_append_drop n _).symm
 have e3 : (ops.toList.take n).length = n := by rw [List.length_take]; omega
 rw [e1] at h
 exact AW.draw_last hm hd hn e2 (by rw [e3]; exact hl) h
theorem AW.region_at {ops : Array Oper} (id : Nat) {ks : List K} (h : AL C ds ks ops ops.toList af ah) : AW C ds (.c (.region id ops false) :: ks) af ah := AW.region h
theorem AW.draw_at {ops : Array Oper} (id : Nat) (hm : C.P.follows .mixedOrders = true) (hd : drawOK ops = true) (hn : ops.toList.all (fun o => okDst o.dst C.n) = true)
  (h : AQ C.P ops ah ops.toList af (fun af' => AW C ds ks af' ah)) : AW C ds (.c (.region id ops true) :: ks) af ah := AW.draw hm hd hn h
theorem AW.draw_last_at {ops : Array Oper} (id n : Nat) (hm : C.P.follows .mixedOrders = true) (hd : drawOK ops = true) (hn : ops.toList.all (fun o => okDst o.dst C.n) = true) (hs : Nat.beq (n + 1) ops.size = true) (hl : lastOK ops n = true)
  (h : AQ C.P ops ah (ops.toList.take n) af (fun af' => AL C ds ks ops (ops.toList.drop n) af' ah)) : AW C ds (.c (.region id ops true) :: ks) af ah := AW.draw_last' n hm hd hn hs hl h
end
theorem toList_beq (s t : ByteArray) : (s.toList == t.toList) = decide (s = t) := by
 rw [Bool.eq_iff_iff, beq_iff_eq, decide_eq_true_eq, ByteArray.toList_eq, ByteArray.toList_eq]
 constructor
 ·intro h; obtain ⟨a⟩ := s; obtain ⟨b⟩ := t; congr; exact Array.ext' h
 ·rintro rfl; rfl
theorem size_pos_of {s : ByteArray} (h : (s.toList == ByteArray.toList ⟨#[]⟩) = false) : 0 < s.size := by
 rw [toList_beq] at h
 rcases Nat.eq_zero_or_pos s.size with h0 | h0
 ·have := of_decide_eq_false h
  exact absurd (by obtain ⟨d⟩ := s; congr; exact Array.eq_empty_of_size_eq_zero h0) this
 ·exact h0
theorem size_zero_of {s : ByteArray} (h : (s.toList == ByteArray.toList ⟨#[]⟩) = true) : s.size = 0 := by
 rw [toList_beq, decide_eq_true_eq] at h
 subst h; rfl
def byteAt (s : ByteArray) (i : Nat) : Int := ((s[i]?).map (·.toNat)).getD 0
theorem byteAt_eq {s : ByteArray} {i : Nat} (h : i < s.size) : ((s[i]'h).toNat : Int) = byteAt s i := by
 unfold byteAt; rw [getElem?_pos s i h]; rfl
theorem AOp.str_at {P : Program} {af : AF} {ah : AH} {d : Option Tmp} {T : TypeId} {ps : String} {es : Array Edge} {gd : Option (Nat × Bool)} {x y : Operand} {s : ByteArray} {k : IntKind} {i : Int} {t : TypeId} (ht : isStr P t = true) (hx : aeval af x = some (.str s)) (hy : aeval af y = some (.int k i)) (h0 : 0 ≤ i) (h1 : i.toNat < s.size) :
  AOp P ⟨d, .index t x y, T, ps, es, gd⟩ af ah (D (.int .u8 (byteAt s i.toNat)) ah) := by
 rw [← byteAt_eq h1]
 exact AOp.str_index (isStr_eq ht) hx hy h0 h1
def allocAV (P : Program) (T : TypeId) : AV := match allocTy P T with | some (g, n) => anyAV g n | none => .any
def allocOK (P : Program) (T : TypeId) : Bool := match allocTy P T with | some (g, n) => g || Nat.beq n 1 | none => false
section
variable {C : Cx} {ds : List Deferred} {ks : List K} {af : AF} {ah : AH} {ops : Array Oper} {rest : List Oper}
theorem AL.alloc_new {dd : Nat} {t T : TypeId} {ps : String} {es : Array Edge} (ht : allocOK C.P t = true) (hn : Nat.blt dd C.n = true) (hk : ∀ b, AL C ds ks ops rest ((dd, .ref b 0) :: af) (.box b (allocAV C.P t) :: ah)) :
  AL C ds ks ops (⟨some dd, .alloc t, T, ps, es, none⟩ :: rest) af ah := by
 unfold allocOK at ht
 split at ht
 ·rename_i g n h
  have e : allocAV C.P t = anyAV g n := by simp [allocAV, h]
  refine AL.step rfl hn (AOp.alloc_any h (by simpa using ht)) ?_ (by rintro _ _ ⟨b, e, _⟩; cases e)
  rintro _ _ ⟨b, e', rfl⟩
  injection e' with e'
  subst e'
  rw [← e]; exact hk b
 ·cases ht
theorem AL.store_new {dd b : Nat} {x : Operand} {v : AV} {t T : TypeId} {ps : String} {es : Array Edge} (hd : get af dd = some (.ref b 0)) (hx : aeval af x = some v) (ht : allocTy C.P t = some (v.isSt, v.size)) (hok : v.cellOK = true) (hup : (anyAV v.isSt v.size).upd 0 v = some v)
  (hk : AL C ds ks ops rest ((dd, .at v) :: af) ah) : AL C ds ks ops (⟨none, .store t (.tmp dd) x, T, ps, es, none⟩ :: rest) af (.box b (allocAV C.P t) :: ah) := by
 have e : allocAV C.P t = anyAV v.isSt v.size := by simp [allocAV, ht]
 rw [e]
 refine AL.store_box (i := 0) hd hx rfl hup hok (allocTy_parts ht).1 ?_
 exact AL.freeze 0 dd rfl hd hk
end
theorem AOp.quo {P : Program} {af : AF} {ah : AH} {d : Option Tmp} {T : TypeId} {ps : String} {es : Array Edge} {gd : Option (Nat × Bool)} {x y : Operand} {m n : Int} {xT yT : TypeId} (hx : aeval af x = some (.int .i64 m)) (hy : aeval af y = some (.int .i64 n)) (h0 : 0 ≤ m ∧ m ≤ 9223372036854775807) (hn : 0 < n) :
  AOp P ⟨d, .binOp .quo xT x y yT, T, ps, es, gd⟩ af ah (D (.int .i64 (m / n)) ah) :=
 AOp.of_pure fun S a w hf _ => ⟨.int .i64 (m / n), by
  have h1 : m.tdiv n = m / n := Int.tdiv_eq_ediv_of_nonneg h0.1
  have h2 : 0 ≤ m / n := Int.ediv_nonneg h0.1 (by omega)
  have h3 : m / n ≤ m := Int.ediv_le_self n h0.1
  have h4 : ¬ n = 0 := by omega
  simp [execOp, (aeval_rel hf hx).int, (aeval_rel hf hy).int, eqGuard, binOp, Op.intArith, Op.intDiv, h4, h1, wrap_id (show -9223372036854775808 ≤ m / n ∧ m / n ≤ 9223372036854775807 by omega)], mk_int⟩
theorem AOp.rem {P : Program} {af : AF} {ah : AH} {d : Option Tmp} {T : TypeId} {ps : String} {es : Array Edge} {gd : Option (Nat × Bool)} {x y : Operand} {m n : Int} {xT yT : TypeId} (hx : aeval af x = some (.int .i64 m)) (hy : aeval af y = some (.int .i64 n)) (h0 : 0 ≤ m ∧ m ≤ 9223372036854775807) (hn : 0 < n) :
  AOp P ⟨d, .binOp .rem xT x y yT, T, ps, es, gd⟩ af ah (D (.int .i64 (m % n)) ah) :=
 AOp.of_pure fun S a w hf _ => ⟨.int .i64 (m % n), by
  have h1 : m.tmod n = m % n := Int.tmod_eq_emod_of_nonneg h0.1
  have h2 : 0 ≤ m % n := Int.emod_nonneg _ (by omega)
  have h3 : m % n ≤ m := by have := Int.emod_def m n; have := Int.mul_nonneg (show 0 ≤ n by omega) (Int.ediv_nonneg h0.1 (show 0 ≤ n by omega)); omega
  have h4 : ¬ n = 0 := by omega
  simp [execOp, (aeval_rel hf hx).int, (aeval_rel hf hy).int, eqGuard, binOp, Op.intArith, Op.intDiv, h4, h1, wrap_id (show -9223372036854775808 ≤ m % n ∧ m % n ≤ 9223372036854775807 by omega)], mk_int⟩
section
variable {P : Program} {fn : Func} {n : Nat} {Fr R0 : Rg} {w0 : World} {Φ : AEnd → AH → Prop} {ks : List K} {af : AF} {ah : AH}
theorem AW.retc {vs : List AV} {ah' : AH} (hr : ResC P ah af fn.results.toList vs) (hs : ah'.Sublist ah) (hΦ : Φ (.ret (resv vs)) ah') : AW (Cof P fn n Fr R0 w0 Φ) [] (.c .ret :: ks) af ah := AW.ret fun a w g => by
 obtain ⟨u, h1, h2⟩ := resultsC_run (P := P) g.fr g.st.rel hr
 have g' := g.sub hs
 exact ⟨g.defers, u, h1, _, _, hΦ, ⟨u, rfl, h2.mv (Mv.same w fun b o h => h.elim .inl fun h => .inr (reg_sub hs h))⟩, g'.st, g'.ext, g'.old⟩
theorem AW.ret_drop {v : AV} {ah' : AH} (hr : resAV fn.results.toList af = some v) (hs : ah'.Sublist ah) (hΦ : Φ (.ret v) ah') : AW (Cof P fn n Fr R0 w0 Φ) [] (.c .ret :: ks) af ah :=
 AW.drop hs (AW.retv hr hΦ)
end
section
variable {C : Cx} {ds : List Deferred} {ks : List K} {af : AF} {ah : AH} {ops : Array Oper} {rest : List Oper}
theorem AL.alloc_z (z : AV) {dd : Nat} {t T : TypeId} {ps : String} {es : Array Edge} (ht : zeroCells C.P t = z.flat) (hz : z.flat.isSome = true) (hn : Nat.blt dd C.n = true) (hk : ∀ b, AL C ds ks ops rest ((dd, .ref b 0) :: af) (.box b z :: ah)) :
  AL C ds ks ops (⟨some dd, .alloc t, T, ps, es, none⟩ :: rest) af ah :=
 AL.step rfl hn (AOp.alloc ht hz) (by rintro _ _ ⟨b, e, rfl⟩; injection e with e; subst e; exact hk b) (by rintro _ _ ⟨b, e, _⟩; cases e)
end
section
variable {C : Cx} {ds : List Deferred} {ks : List K} {af : AF} {ah : AH} {ops : Array Oper} {rest : List Oper} {o : Oper}
theorem AL.d {v : AV} {ah' : AH} {d : Nat} (h : AOp C.P o af ah (D v ah')) (hk : AL C ds ks ops rest ((d, v) :: af) ah') (hg : o.guard = none := by exact rfl) (hd : o.dst = some d := by exact rfl) (hn : Nat.blt d C.n = true := by exact rfl) : AL C ds ks ops (o :: rest) af ah := AL.det h hg hd hn hk
theorem AL.d0 {v : AV} {ah' : AH} (h : AOp C.P o af ah (D v ah')) (hk : AL C ds ks ops rest af ah') (hg : o.guard = none := by exact rfl) (hd : o.dst = none := by exact rfl) : AL C ds ks ops (o :: rest) af ah := AL.det0 h hg hd hk
theorem AL.e {v : AV} {d : Nat} (hk : AL C ds ks ops rest ((d, v) :: af) ah) (h : evalOp af o.op = some v := by exact rfl) (hg : o.guard = none := by exact rfl) (hd : o.dst = some d := by exact rfl) (hn : Nat.blt d C.n = true := by exact rfl) : AL C ds ks ops (o :: rest) af ah := AL.ev h hg hd hn hk
theorem AL.gd {g t : Nat} {b : Bool} (hk : AL C ds ks ops ({ o with guard := none } :: rest) af ah) (hg : o.guard = some (g, b) := by exact rfl) (ht : (ops[g]?).bind (·.dst) = some t := by exact rfl) (hn : Nat.blt t C.n = true := by exact rfl) (hb : get af t = some (.bool b) := by exact rfl) : AL C ds ks ops (o :: rest) af ah := AL.guard_do hg ht hn hb hk
theorem AL.gs {g t : Nat} {b : Bool} (hk : AL C ds ks ops rest (put af o.dst (.tup [])) ah) (hg : o.guard = some (g, b) := by exact rfl) (ht : (ops[g]?).bind (·.dst) = some t := by exact rfl) (hn : Nat.blt t C.n = true := by exact rfl) (hb : get af t = some (.bool (!b)) := by exact rfl) (hd : okDst o.dst C.n = true := by exact rfl) : AL C ds ks ops (o :: rest) af ah := AL.guard_skip hg ht hn hb hd hk
theorem AL.gu {g t : Nat} {b : Bool} (hk : AL C ds ks ops rest (put af o.dst (.tup [])) ah) (hg : o.guard = some (g, b) := by exact rfl) (ht : (ops[g]?).bind (·.dst) = some t := by exact rfl) (hb : get af t = some (.tup []) := by exact rfl) (hd : okDst o.dst C.n = true := by exact rfl) : AL C ds ks ops (o :: rest) af ah := AL.guard_undef hg ht hb hd hk
theorem AL.gx {g t : Nat} {b c : Bool} (h1 : b = true → AL C ds ks ops (o :: rest) ((t, .bool true) :: af) ah) (h2 : b = false → AL C ds ks ops (o :: rest) ((t, .bool false) :: af) ah) (hg : o.guard = some (g, c) := by exact rfl) (ht : (ops[g]?).bind (·.dst) = some t := by exact rfl) (h : get af t = some (.bool b) := by exact rfl) : AL C ds ks ops (o :: rest) af ah := AL.guard_split hg ht h h1 h2
theorem AL.sl (i : Nat) {x y : Operand} {b off : Nat} {c c' v : AV} {t T : TypeId} {ps : String} {es : Array Edge} (hk : AL C ds ks ops rest af (ah.set i (.box b c'))) (hx : aeval af x = some (.ref b off) := by exact rfl) (hy : aeval af y = some v := by exact rfl) (hi : ah[i]? = some (.box b c) := by exact rfl) (hs : c.upd off v = some c' := by exact rfl) (hok : v.cellOK = true := by exact rfl)
  (ht : tkind C.P t = some (v.isSt, v.size) := by kernel_rfl) : AL C ds ks ops (⟨none, .store t x y, T, ps, es, none⟩ :: rest) af ah := AL.store_leaf i hx hy hi hs hok ht hk
end
section
variable {C : Cx} {ds : List Deferred} {ks : List K} {ah : AH} {ops : Array Oper} {rest : List Oper}
theorem AQ.p {P : Program} {K : AF → Prop} {o : Oper} {v : AV} {d : Nat} {af af' : AF} (hkp : keep (oslots ops o) af = af') (h : AOp P o af' ah (D v ah)) (k : AQ P ops ah rest ((d, v) :: af) K) (hg : o.guard = none := by exact rfl) (hd : o.dst = some d := by exact rfl) : AQ P ops ah (o :: rest) af K := AQ.op hkp h hg hd k
theorem AQ.gp {P : Program} {K : AF → Prop} {o : Oper} {v : AV} {d : Nat} {af af' : AF} (hkp : keep (oslots ops o) af = af') (h : AOp P o af' ah (D v ah)) (k : AQ P ops ah rest ((d, v) :: af) K) (hg : gdo ops af' o = some true := by exact rfl) (hd : o.dst = some d := by exact rfl) : AQ P ops ah (o :: rest) af K := AQ.gop hkp h hg hd k
theorem AQ.e {P : Program} {K : AF → Prop} {o : Oper} {v : AV} {d : Nat} {af af' : AF} (k : AQ P ops ah rest ((d, v) :: af) K) (hkp : keep (oslots ops o) af = af' := by exact rfl) (h : evalOp af' o.op = some v := by exact rfl) (hg : o.guard = none := by exact rfl) (hd : o.dst = some d := by exact rfl) : AQ P ops ah (o :: rest) af K := AQ.ev hkp h hg hd k
theorem AQ.ge {P : Program} {K : AF → Prop} {o : Oper} {v : AV} {d : Nat} {af af' : AF} (k : AQ P ops ah rest ((d, v) :: af) K) (hkp : keep (oslots ops o) af = af' := by exact rfl) (h : evalOp af' o.op = some v := by exact rfl) (hg : gdo ops af' o = some true := by exact rfl) (hd : o.dst = some d := by exact rfl) : AQ P ops ah (o :: rest) af K := AQ.gev hkp h hg hd k
theorem AQ.k {P : Program} {K : AF → Prop} {o : Oper} {d : Nat} {af af' : AF} (k : AQ P ops ah rest ((d, .tup []) :: af) K) (hkp : keep (oslots ops o) af = af' := by exact rfl) (hg : gdo ops af' o = some false := by exact rfl) (hd : o.dst = some d := by exact rfl) : AQ P ops ah (o :: rest) af K := AQ.skip hkp hg hd k
theorem AQ.x {o : Oper} {g t : Nat} {b c : Bool} {af : AF} {rs : List Oper} (h1 : b = true → AQ C.P ops ah (o :: rs) ((t, .bool true) :: af) (fun af' => AW C ds ks af' ah)) (h2 : b = false → AQ C.P ops ah (o :: rs) ((t, .bool false) :: af) (fun af' => AW C ds ks af' ah)) (hg : o.guard = some (g, c) := by exact rfl) (ht : dstOf ops g = some t := by exact rfl) (h : get af t = some (.bool b) := by exact rfl) :
  AQ C.P ops ah (o :: rs) af (fun af' => AW C ds ks af' ah) := AQ.gsplit_w hg ht h h1 h2
theorem AQ.y {o : Oper} {g t : Nat} {b c : Bool} {af : AF} {rs : List Oper} (h1 : b = true → AQ C.P ops ah (o :: rs) ((t, .bool true) :: af) (fun af' => AL C ds ks ops rest af' ah)) (h2 : b = false → AQ C.P ops ah (o :: rs) ((t, .bool false) :: af) (fun af' => AL C ds ks ops rest af' ah)) (hg : o.guard = some (g, c) := by exact rfl) (ht : dstOf ops g = some t := by exact rfl) (h : get af t = some (.bool b) := by exact rfl) :
  AQ C.P ops ah (o :: rs) af (fun af' => AL C ds ks ops rest af' ah) := AQ.gsplit_l hg ht h h1 h2
end
section
variable {C : Cx} {ds : List Deferred} {ks : List K} {af : AF} {ah : AH}
theorem AW.j {c : Operand} {x y : Code} {b : Bool} (ht : b = true → AW C ds (.c x :: ks) af ah) (hf : b = false → AW C ds (.c y :: ks) af ah) (hc : aeval af c = some (.bool b) := by exact rfl) : AW C ds (.c (.cond c x y) :: ks) af ah := AW.cond hc ht hf
end
section
variable {P : Program} {af : AF} {ah : AH} {d : Option Tmp} {T : TypeId} {ps : String} {es : Array Edge} {gd : Option (Nat × Bool)}
theorem AOp.la {x : Operand} {v : AV} {t : TypeId} (hx : aeval af x = some (.at v) := by exact rfl) (hany : v.isAny = false := by exact rfl) (ht : tkind P t = some (v.isSt, v.size) := by kernel_rfl) : AOp P ⟨d, .load t x, T, ps, es, gd⟩ af ah (D v ah) := AOp.load_at hx hany ht
theorem AOp.fa {x : Operand} {fs : List AV} {y : AV} {t : TypeId} {k off : Nat} (hx : aeval af x = some (.at (.st fs)) := by exact rfl) (hk : fs[k]? = some y := by exact rfl) (hf : foff P t k = some off := by kernel_rfl) (ho : AV.sizes (fs.take k) = off := by exact rfl) : AOp P ⟨d, .fieldAddr t x k, T, ps, es, gd⟩ af ah (D (.at y) ah) := AOp.field_at hx hk hf ho
theorem AOp.fr (off : Nat) {x : Operand} {b o : Nat} {t : TypeId} {k : Nat} (hx : aeval af x = some (.ref b o) := by exact rfl) (hf : foff P t k = some off := by kernel_rfl) : AOp P ⟨d, .fieldAddr t x k, T, ps, es, gd⟩ af ah (D (.ref b (o + off)) ah) := AOp.field_ref hx hf
theorem AOp.ln {x : Operand} {v : AV} {n : Int} {t : TypeId} (hx : aeval af x = some v := by exact rfl) (hn : lenOf v = some n := by exact rfl) (ht : lenTy P t = some v.isStr := by kernel_rfl) : AOp P ⟨d, .call ⟨.builtin .len, #[x], #[t]⟩, T, ps, es, gd⟩ af ah (D (.int .i64 n) ah) := AOp.len hx hn ht
theorem AOp.ad {x y : Operand} {m n : Int} {xT yT : TypeId} (hx : aeval af x = some (.int .i64 m) := by exact rfl) (hy : aeval af y = some (.int .i64 n) := by exact rfl) (h : -9223372036854775808 ≤ m + n ∧ m + n ≤ 9223372036854775807 := by omega) : AOp P ⟨d, .binOp .add xT x y yT, T, ps, es, gd⟩ af ah (D (.int .i64 (m + n)) ah) := AOp.add hx hy h
theorem AOp.sb {x y : Operand} {m n : Int} {xT yT : TypeId} (hx : aeval af x = some (.int .i64 m) := by exact rfl) (hy : aeval af y = some (.int .i64 n) := by exact rfl) (h : -9223372036854775808 ≤ m - n ∧ m - n ≤ 9223372036854775807 := by omega) : AOp P ⟨d, .binOp .sub xT x y yT, T, ps, es, gd⟩ af ah (D (.int .i64 (m - n)) ah) := AOp.sub hx hy h
theorem AOp.be {x y : Operand} {p q : Bool} {xT yT : TypeId} (ht : P.underlying xT = some .bool := by kernel_rfl) (hx : aeval af x = some (.bool p) := by exact rfl) (hy : aeval af y = some (.bool q) := by exact rfl) : AOp P ⟨d, .binOp .eql xT x y yT, T, ps, es, gd⟩ af ah (D (.bool (p == q)) ah) := AOp.bool_eq ht hx hy
theorem AOp.bn {x y : Operand} {p q : Bool} {xT yT : TypeId} (ht : P.underlying xT = some .bool := by kernel_rfl) (hx : aeval af x = some (.bool p) := by exact rfl) (hy : aeval af y = some (.bool q) := by exact rfl) : AOp P ⟨d, .binOp .neq xT x y yT, T, ps, es, gd⟩ af ah (D (.bool (!(p == q))) ah) := AOp.bool_ne ht hx hy
theorem AOp.ll (i : Nat) {x : Operand} {b off : Nat} {c v : AV} {t : TypeId} (hx : aeval af x = some (.ref b off) := by exact rfl) (hi : ah[i]? = some (.box b c) := by exact rfl) (hs : c.sub off false 1 = some v := by exact rfl) (hv : (!v.isSt && Nat.beq v.size 1) = true := by exact rfl) (ht : tkind P t = some (false, 1) := by kernel_rfl) : AOp P ⟨d, .load t x, T, ps, es, gd⟩ af ah (D v ah) := AOp.load_leaf i hx hi hs hv ht
theorem AOp.lw (i : Nat) {x : Operand} {b : Nat} {c : AV} {t : TypeId} (hx : aeval af x = some (.ref b 0) := by exact rfl) (hi : ah[i]? = some (.box b c) := by exact rfl) (hs : c.sub 0 c.isSt c.size = some c := by exact rfl) (ht : tkind P t = some (c.isSt, c.size) := by kernel_rfl) : AOp P ⟨d, .load t x, T, ps, es, gd⟩ af ah (D c ah) := AOp.load_all i hx hi hs ht
end
def ctlN : Nat → AF → List K → List K
 | n + 1, af, .c (.seq x y) :: ks => ctlN n af (.c x :: .c y :: ks)
 | n + 1, af, .c .skip :: ks => ctlN n af ks
 | n + 1, af, .c (.label _) :: ks => ctlN n af ks
 | n + 1, af, .c (.block id x) :: ks => ctlN n af (.c x :: .blk id :: ks)
 | n + 1, af, .blk _ :: ks => ctlN n af ks
 | n + 1, af, .c (.exit id) :: ks => match popTo id ks with | some ks' => ctlN n af ks' | none => .c (.exit id) :: ks
 | _, _, ks => ks
def headCtl (af : AF) : List K → Bool
 | .c (.seq _ _) :: _ => true
 | .c .skip :: _ => true
 | .c (.label _) :: _ => true
 | .c (.block _ _) :: _ => true
 | .blk _ :: _ => true
 | .c (.exit id) :: ks => (popTo id ks).isSome
 | _ => false
section
variable {C : Cx} {ds : List Deferred} {ks ks0 : List K} {af : AF} {ah : AH}
theorem AW.ctl (n : Nat) (ks : List K) (h : AW C ds (ctlN n af ks) af ah) : AW C ds ks af ah := by
 induction n generalizing ks with
 | zero =>
  have e : ctlN 0 af ks = ks := by unfold ctlN; rfl
  rw [e] at h; exact h
 | succ n ih =>
  unfold ctlN at h
  split at h
  ·rename_i e; injection e with e; subst e; exact AW.seq (ih _ h)
  ·rename_i e; injection e with e; subst e; exact AW.skip (ih _ h)
  ·rename_i e; injection e with e; subst e; exact AW.label (ih _ h)
  ·rename_i e; injection e with e; subst e; exact AW.block (ih _ h)
  ·rename_i e; injection e with e; subst e; exact AW.endblk (ih _ h)
  ·rename_i e; injection e with e; subst e
   split at h
   ·exact AW.exit (by assumption) (ih _ h)
   ·exact h
  ·exact h
theorem AW.go {ks1 : List K} (h : AW C ds ks1 af ah) (hk : headCtl af ks0 = true := by exact rfl) (hc : ctlN 99 af ks0 = ks1 := by exact rfl) : AW C ds ks0 af ah := AW.ctl 99 ks0 (by rw [hc]; exact h)
theorem AW.r {ops : Array Oper} (id : Nat) (h : AL C ds ks ops ops.toList af ah) (hc : ctlN 99 af ks0 = .c (.region id ops false) :: ks := by exact rfl) : AW C ds ks0 af ah := AW.ctl 99 ks0 (by rw [hc]; exact AW.region_at id h)
theorem AW.jj {c : Operand} {x y : Code} {b : Bool} (ht : b = true → AW C ds (.c x :: ks) af ah) (hf : b = false → AW C ds (.c y :: ks) af ah) (hc : ctlN 99 af ks0 = .c (.cond c x y) :: ks := by exact rfl) (hb : aeval af c = some (.bool b) := by exact rfl) : AW C ds ks0 af ah := AW.ctl 99 ks0 (by rw [hc]; exact AW.cond hb ht hf)
theorem AW.jt {c : Operand} {x y : Code} (h : AW C ds (.c x :: ks) af ah) (hc : ctlN 99 af ks0 = .c (.cond c x y) :: ks := by exact rfl) (hb : aeval af c = some (.bool true) := by exact rfl) : AW C ds ks0 af ah := AW.ctl 99 ks0 (by rw [hc]; exact AW.cond_true hb h)
theorem AW.jf {c : Operand} {x y : Code} (h : AW C ds (.c y :: ks) af ah) (hc : ctlN 99 af ks0 = .c (.cond c x y) :: ks := by exact rfl) (hb : aeval af c = some (.bool false) := by exact rfl) : AW C ds ks0 af ah := AW.ctl 99 ks0 (by rw [hc]; exact AW.cond_false hb h)
theorem AW.dq {ops : Array Oper} (id : Nat) (h : AQ C.P ops ah ops.toList af (fun af' => AW C ds ks af' ah)) (hc : ctlN 99 af ks0 = .c (.region id ops true) :: ks := by exact rfl) (hm : C.P.follows .mixedOrders = true := by exact rfl) (hd : drawOK ops = true := by kernel_rfl) (hn : ops.toList.all (fun o => okDst o.dst C.n) = true := by kernel_rfl) : AW C ds ks0 af ah :=
 AW.ctl 99 ks0 (by rw [hc]; exact AW.draw_at id hm hd hn h)
theorem AW.dl {ops : Array Oper} (id n : Nat) (h : AQ C.P ops ah (ops.toList.take n) af (fun af' => AL C ds ks ops (ops.toList.drop n) af' ah)) (hc : ctlN 99 af ks0 = .c (.region id ops true) :: ks := by exact rfl) (hm : C.P.follows .mixedOrders = true := by exact rfl) (hd : drawOK ops = true := by kernel_rfl) (hn : ops.toList.all (fun o => okDst o.dst C.n) = true := by kernel_rfl) (hs : Nat.beq (n + 1) ops.size = true := by kernel_rfl) (hl : lastOK ops n = true := by kernel_rfl) : AW C ds ks0 af ah :=
 AW.ctl 99 ks0 (by rw [hc]; exact AW.draw_last_at id n hm hd hn hs hl h)
end
def pure1 (af : AF) : Op → Option AV
 | .load _ x => match aeval af x with | some (.at v) => some v | _ => none
 | .fieldAddr _ x k => match aeval af x with | some (.at (.st fs)) => (fs[k]?).map .at | _ => none
 | .call c => match c.callee, c.args.toList, c.argTypes.toList with
  | .builtin .len, [x], [_] => match aeval af x with | some v => (lenOf v).map (.int .i64) | none => none
  | _, _, _ => none
 | op => evalOp af op
def pureOK (P : Program) (af : AF) : Op → Bool
 | .load t x => match aeval af x with | some (.at v) => !v.isAny && tkB P t v.isSt v.size | _ => false
 | .fieldAddr t x k => match aeval af x with | some (.at (.st fs)) => (match foff P t k with | some off => Nat.beq (AV.sizes (fs.take k)) off | none => false) | _ => false
 | .call c => match c.callee, c.args.toList, c.argTypes.toList with
  | .builtin .len, [x], [t] => match aeval af x with | some v => (match lenTy P t with | some b => b == v.isStr | none => false) | none => false
  | _, _, _ => false
 | _ => true
theorem AOp.pure1 {P : Program} {af : AF} {ah : AH} {o : Oper} {v : AV} (h : SX.pure1 af o.op = some v) (hc : pureOK P af o.op = true) : AOp P o af ah (D v ah) := by
 obtain ⟨d, op, T, ps, es, gd⟩ := o
 simp only at h hc
 unfold SX.pure1 at h
 split at h
 ·rename_i t x
  split at h
  ·rename_i u hx
   obtain rfl := Option.some.inj h
   simp only [pureOK, hx, Bool.and_eq_true, Bool.not_eq_true'] at hc
   exact AOp.load_at hx hc.1 (tkB_eq hc.2)
  ·cases h
 ·rename_i t x k
  split at h
  ·rename_i fs hx
   simp only [pureOK, hx] at hc
   cases hk : fs[k]? with
   | none => rw [hk] at h; cases h
   | some y =>
    rw [hk] at h
    obtain rfl := Option.some.inj h
    cases hf : foff P t k with
    | none => simp [hf] at hc
    | some off => rw [hf] at hc; exact AOp.field_at hx hk hf (Nat.eq_of_beq_eq_true hc)
  ·cases h
 ·rename_i c
  obtain ⟨cl, xs, ts⟩ := c
  simp only at h hc
  split at h
  ·rename_i x t h2 h3
   split at h
   ·rename_i u hx
    simp only [pureOK, h2, h3, hx] at hc
    cases hn : lenOf u with
    | none => rw [hn] at h; cases h
    | some n =>
     rw [hn] at h
     obtain rfl := Option.some.inj h
     cases hl : lenTy P t with
     | none => simp [hl] at hc
     | some b =>
      have e1 : xs = #[x] := by apply Array.ext'; simpa using h2
      have e2 : ts = #[t] := by apply Array.ext'; simpa using h3
      subst e1; subst e2
      exact AOp.len hx hn (by rw [hl]; rw [hl] at hc; simpa using hc)
   ·cases h
  ·cases h
 ·exact AOp.ev h
def ev1 (ops : Array Oper) (af : AF) (o : Oper) : Option AV := match gdo ops af o with
 | some true => SX.pure1 af o.op
 | some false => some (.tup [])
 | none => none
def chk1 (P : Program) (N : Nat) (ops : Array Oper) (af : AF) (o : Oper) : Bool :=
 (match o.guard with | some (g, _) => (match dstOf ops g with | some t => Nat.blt t N | none => false) | none => true) && (match gdo ops af o with | some true => pureOK P af o.op | _ => true)
def evN (ops : Array Oper) : Nat → AF → List Oper → Option (AF × List Oper)
 | 0, af, l => some (af, l)
 | n + 1, af, o :: l => match o.dst with
  | some d => match ev1 ops af o with
   | some v => evN ops n ((d, v) :: af) l
   | none => none
  | none => none
 | _ + 1, _, [] => none
def okN (P : Program) (N : Nat) (ops : Array Oper) : Nat → AF → List Oper → Bool
 | 0, _, _ => true
 | n + 1, af, o :: l => match o.dst with
  | some d => match ev1 ops af o with
   | some v => Nat.blt d N && chk1 P N ops af o && okN P N ops n ((d, v) :: af) l
   | none => false
  | none => false
 | _ + 1, _, [] => false
section
variable {C : Cx} {ds : List Deferred} {ks : List K} {ah : AH} {ops : Array Oper}
theorem AL.es1 {af : AF} {o : Oper} {rest : List Oper} {d : Nat} {v : AV} (hd : o.dst = some d) (hv : ev1 ops af o = some v) (hn : Nat.blt d C.n = true) (hc : chk1 C.P C.n ops af o = true) (k : AL C ds ks ops rest ((d, v) :: af) ah) : AL C ds ks ops (o :: rest) af ah := by
 unfold chk1 at hc
 rw [Bool.and_eq_true] at hc
 obtain ⟨c1, c2⟩ := hc
 unfold ev1 at hv
 cases hg : o.guard with
 | none =>
  have e : gdo ops af o = some true := by unfold gdo; rw [hg]
  rw [e] at hv c2
  exact AL.det (AOp.pure1 hv c2) hg hd hn k
 | some p =>
  obtain ⟨g, b⟩ := p
  rw [hg] at c1
  simp only at c1
  cases ht : dstOf ops g with
  | none => rw [ht] at c1; cases c1
  | some t =>
   rw [ht] at c1
   simp only at c1
   have hdk : okDst o.dst C.n = true := by rw [hd]; exact hn
   have hput : ∀ u, SX.put af o.dst u = (d, u) :: af := fun u => by rw [hd]; rfl
   unfold gdo at hv c2
   rw [hg] at hv c2
   simp only [ht] at hv c2
   split at hv
   ·rename_i h1
    rw [h1] at c2
    simp only at c2
    split at h1
    ·rename_i c hget
     have hcb : c = b := by simpa using Option.some.inj h1
     subst hcb
     refine AL.guard_do hg ht c1 hget ?_
     exact AL.det (o := { o with guard := none }) (AOp.pure1 (o := { o with guard := none }) hv c2) rfl hd hn k
    ·cases h1
    ·cases h1
   ·rename_i h1
    obtain rfl := Option.some.inj hv
    split at h1
    ·rename_i c hget
     have hcb : c = !b := by have := Option.some.inj h1; cases c <;> cases b <;> simp_all
     rw [hcb] at hget
     exact AL.guard_skip hg ht c1 hget hdk (by rw [hput]; exact k)
    ·rename_i hget
     exact AL.guard_undef hg ht hget hdk (by rw [hput]; exact k)
    ·cases h1
   ·cases hv
theorem AL.esN : ∀ (n : Nat) {af af' : AF} {rest l' : List Oper}, evN ops n af rest = some (af', l') → okN C.P C.n ops n af rest = true → AL C ds ks ops l' af' ah → AL C ds ks ops rest af ah
 | 0, af, af', rest, l', h, _, k => by
  have e : (af, rest) = (af', l') := Option.some.inj h
  injection e with e1 e2
  subst e1; subst e2; exact k
 | n + 1, af, af', [], l', h, _, k => by cases h
 | n + 1, af, af', o :: l, l', h, hc, k => by
  unfold evN at h
  unfold okN at hc
  cases hd : o.dst with
  | none => rw [hd] at h; cases h
  | some d =>
   rw [hd] at h hc
   simp only at h hc
   cases hv : ev1 ops af o with
   | none => rw [hv] at h; cases h
   | some v =>
    rw [hv] at h hc
    simp only [Bool.and_eq_true] at h hc
    exact AL.es1 hd hv hc.1.1 hc.1.2 (AL.esN n h hc.2 k)
theorem AL.es (n : Nat) {af af' : AF} {rest l' : List Oper} (k : AL C ds ks ops l' af' ah) (h : evN ops n af rest = some (af', l') := by exact rfl) (hc : okN C.P C.n ops n af rest = true := by kernel_rfl) : AL C ds ks ops rest af ah := AL.esN n h hc k
theorem AW.re {ks0 : List K} {af af' : AF} (id n : Nat) (k : AW C ds ks af' ah) (hc : ctlN 99 af ks0 = .c (.region id ops false) :: ks := by exact rfl) (h : evN ops n af ops.toList = some (af', []) := by exact rfl) (hk : okN C.P C.n ops n af ops.toList = true := by kernel_rfl) : AW C ds ks0 af ah := AW.r id (AL.es n (AL.nil k) h hk) hc
end
def evQ (ops : Array Oper) : Nat → AF → List Oper → Option (AF × List Oper)
 | 0, af, l => some (af, l)
 | n + 1, af, o :: l => match o.dst with
  | some d => match ev1 ops (keep (oslots ops o) af) o with
   | some v => evQ ops n ((d, v) :: af) l
   | none => none
  | none => none
 | _ + 1, _, [] => none
def okQ (P : Program) (ops : Array Oper) : Nat → AF → List Oper → Bool
 | 0, _, _ => true
 | n + 1, af, o :: l => match o.dst with
  | some d => match ev1 ops (keep (oslots ops o) af) o with
   | some v => (match gdo ops (keep (oslots ops o) af) o with | some true => pureOK P (keep (oslots ops o) af) o.op | _ => true) && okQ P ops n ((d, v) :: af) l
   | none => false
  | none => false
 | _ + 1, _, [] => false
section
variable {P : Program} {ops : Array Oper} {ah : AH} {K : AF → Prop}
theorem AQ.esN : ∀ (n : Nat) {af af' : AF} {rest l' : List Oper}, evQ ops n af rest = some (af', l') → okQ P ops n af rest = true → AQ P ops ah l' af' K → AQ P ops ah rest af K
 | 0, af, af', rest, l', h, _, k => by
  have e : (af, rest) = (af', l') := Option.some.inj h
  injection e with e1 e2
  subst e1; subst e2; exact k
 | n + 1, af, af', [], l', h, _, k => by cases h
 | n + 1, af, af', o :: l, l', h, hc, k => by
  unfold evQ at h
  unfold okQ at hc
  cases hd : o.dst with
  | none => rw [hd] at h; cases h
  | some d =>
   rw [hd] at h hc
   simp only at h hc
   cases hv : ev1 ops (keep (oslots ops o) af) o with
   | none => rw [hv] at h; cases h
   | some v =>
    rw [hv] at h hc
    simp only [Bool.and_eq_true] at h hc
    refine AQ.cons (v := v) ?_ (by rw [hd]; exact AQ.esN n h hc.2 k)
    unfold ev1 at hv
    split at hv
    ·rename_i hg
     rw [hg] at hc
     exact .inl ⟨hg, AOp.pure1 hv hc.1⟩
    ·rename_i hg
     exact .inr ⟨hg, (Option.some.inj hv).symm⟩
    ·cases hv
theorem AQ.es (n : Nat) {af af' : AF} {rest l' : List Oper} (k : AQ P ops ah l' af' K) (h : evQ ops n af rest = some (af', l') := by exact rfl) (hc : okQ P ops n af rest = true := by kernel_rfl) : AQ P ops ah rest af K := AQ.esN n h hc k
end
def Jm (C : Cx) (ds : List Deferred) (I : AF → AH → Prop) (a : Act) (w : World) : Prop := ∃ af ah, I af ah ∧ Good C ds af ah a w
section
variable {C : Cx} {ds : List Deferred} {ks : List K} {af : AF} {ah : AH} {ops : Array Oper} {rest : List Oper}
theorem AW.cut {x : Code} (I : AF → AH → Prop) (h : AW C ds (.c x :: .back (Jm C ds I) :: ks) af ah) (k : ∀ af ah, I af ah → AW C ds ks af ah) : AW C ds (.c x :: ks) af ah := .mk fun a w g => by
 have hh := h.out a w g
 simp only [hnd] at hh ⊢
 refine Code.wpIn_mono (fun e a' w' q => ?_) hh
 cases e with
 | normal =>
  simp only [hnd] at q
  obtain ⟨af', ah', hi, hg⟩ := q
  exact (k af' ah' hi).out a' w' hg
 | _ => simpa [hnd] using q
theorem AW.meet {I : AF → AH → Prop} (is : List Nat) (hi : I (keep is af) ah) : AW C ds (.back (Jm C ds I) :: ks) af ah := .mk fun a w g => by
 simp only [hnd]
 exact ⟨_, _, hi, { g with fr := fun i v hi => g.fr i v (get_keep hi) }⟩
theorem wpList_cut {F : Fence} {N : Nat} {P : Program} {Q Q' : Exit → Act → World → Prop} {R : List Oper} (hn : ∀ a w, Q' .normal a w → wpListIn F N P ops Q R a w) (he : ∀ e, e ≠ .normal → ∀ a w, Q' e a w → Q e a w) : ∀ (B : List Oper) (a : Act) (w : World), wpListIn F N P ops Q' B a w → wpListIn F N P ops Q (B ++ R) a w
 | [], a, w, h => by
  have : Q' .normal a w := by simpa [wpListIn] using h
  simpa using hn a w this
 | o :: B, a, w, h => by
  unfold wpListIn at h
  rw [List.cons_append]
  unfold wpListIn
  by_cases hw : Region.wanted o (yielded ops a.tmps) = true
  ·rw [if_pos hw] at h ⊢
   unfold Oper.wpIn at h ⊢
   refine ⟨h.1, ?_⟩
   have h := h.2
   generalize (o.semAt F.round a.eval).run P w = r at h ⊢
   unfold Oper.uponIn at h ⊢
   split at h
   ·exact wpList_cut hn he B _ _ h
   ·exact wpList_cut hn he B _ _ h
   ·exact wpList_cut hn he B _ _ h
   ·refine ⟨h.1, h.2.mono fun e w' q => ?_⟩
    cases e with
    | returned v => exact wpList_cut hn he B _ _ q
    | panicked c => exact he _ (by simp) _ _ q
    | outgrown => obtain ⟨a0, w0, q⟩ := q; exact ⟨a0, w0, he _ (by simp) _ _ q⟩
   ·exact ⟨h.1, h.2.mono fun v w' q => wpList_cut hn he B _ _ q⟩
   ·refine ⟨h.1, h.2.mono fun e w' q => ?_⟩
    cases e with
    | returned v => exact wpList_cut hn he B _ _ q
    | panicked c => exact he _ (by simp) _ _ q
    | outgrown => obtain ⟨a0, w0, q⟩ := q; exact ⟨a0, w0, he _ (by simp) _ _ q⟩
   ·exact he _ (by simp) _ _ h
   ·exact h.elim
  ·rw [if_neg hw] at h ⊢
   exact ⟨h.1, wpList_cut hn he B _ _ h.2⟩
theorem AL.cut (n : Nat) (I : AF → AH → Prop) (h : AL C ds (.back (Jm C ds I) :: ks) ops (rest.take n) af ah) (k : ∀ af ah, I af ah → AL C ds ks ops (rest.drop n) af ah) : AL C ds ks ops rest af ah := .mk fun a w g => by
 have hh := h.out a w g
 have := wpList_cut (R := rest.drop n) (Q := hnd C.P C.ro C.R ks) (fun a' w' q => ?_) (fun e hne a' w' q => ?_) _ a w hh
 ·rwa [List.take_append_drop] at this
 ·simp only [hnd] at q
  obtain ⟨af', ah', hi, hg⟩ := q
  exact (k af' ah' hi).out a' w' hg
 ·cases e with
  | normal => exact absurd rfl hne
  | _ => simpa [hnd] using q
end
section
variable {α : Type}
def kvW (g : α → AV) (A : List (ByteArray × α)) : List (AV × AV) := A.map fun p => (.str p.1, g p.2)
def lookA : List (ByteArray × α) → ByteArray → Option α
 | [], _ => none
 | (k', v) :: r, k => if k = k' then some v else lookA r k
def setA : List (ByteArray × α) → ByteArray → α → List (ByteArray × α)
 | [], k, v => [(k, v)]
 | (k', w) :: r, k, v => if k = k' then (k, v) :: r else (k', w) :: setA r k v
def gsetA (A : List (ByteArray × α)) (g : MG) (k : ByteArray) : MG := if (lookA A k).isSome then g else ⟨g.bs ++ [g.clk], g.clk + 1⟩
theorem keysOK_kvW (g : α → AV) : ∀ A : List (ByteArray × α), keysOK .string (kvW g A) = true
 | [] => rfl
 | p :: A => by simp only [kvW, List.map_cons, keysOK, keyOK, Bool.true_and]; exact keysOK_kvW g A
theorem mfind_none {g : α → AV} {k : ByteArray} : ∀ {A : List (ByteArray × α)} {i : Nat}, lookA A k = none → mfind (.str k) (kvW g A) i = none
 | [], _, _ => rfl
 | (k', v) :: A, i, h => by
  simp only [lookA] at h
  by_cases e : k = k'
  ·rw [if_pos e] at h; cases h
  ·rw [if_neg e] at h
   have e' : keq (.str k) (.str k') = false := by simp [keq, bytes_beq, e]
   show (if keq (.str k) (.str k') = true then _ else _) = _
   rw [e']; exact mfind_none h
theorem mfind_some {g : α → AV} {k : ByteArray} {v : α} : ∀ {A : List (ByteArray × α)} {i : Nat}, lookA A k = some v → ∃ j, mfind (.str k) (kvW g A) i = some (j, g v)
 | [], _, h => by cases h
 | (k', w) :: A, i, h => by
  simp only [lookA] at h
  by_cases e : k = k'
  ·rw [if_pos e] at h
   obtain rfl := Option.some.inj h
   have e' : keq (.str k) (.str k') = true := by simp [keq, bytes_beq, e]
   exact ⟨i, by show (if keq (.str k) (.str k') = true then _ else _) = _; rw [e']; rfl⟩
  ·rw [if_neg e] at h
   have e' : keq (.str k) (.str k') = false := by simp [keq, bytes_beq, e]
   obtain ⟨j, hj⟩ := mfind_some (g := g) (i := i + 1) h
   exact ⟨j, by show (if keq (.str k) (.str k') = true then _ else _) = _; rw [e']; exact hj⟩
theorem mset_kvW {g : α → AV} {k : ByteArray} {v : α} (A : List (ByteArray × α)) : mset (kvW g A) (.str k) (g v) = kvW g (setA A k v) := by
 have key : ∀ (A : List (ByteArray × α)) (i : Nat), (match mfind (.str k) (kvW g A) i with | some (j, _) => (kvW g A).set (j - i) (.str k, g v) | none => kvW g A ++ [(.str k, g v)]) = kvW g (setA A k v) ∧ ∀ j w, mfind (.str k) (kvW g A) i = some (j, w) → i ≤ j := by
  intro A
  induction A with
  | nil => intro i; exact ⟨rfl, fun j w h => by cases h⟩
  | cons p A ih =>
   obtain ⟨k', w⟩ := p
   intro i
   obtain ⟨ih1, ih2⟩ := ih (i + 1)
   have hm : mfind (.str k) (kvW g ((k', w) :: A)) i = if keq (.str k) (.str k') = true then some (i, g w) else mfind (.str k) (kvW g A) (i + 1) := rfl
   by_cases e : k = k'
   ·have e' : keq (.str k) (.str k') = true := by simp [keq, bytes_beq, e]
    rw [hm, if_pos e']
    refine ⟨?_, fun j w h => by simp only [Option.some.injEq, Prod.mk.injEq] at h; omega⟩
    simp [setA, e, kvW]
   ·have e' : ¬ keq (.str k) (.str k') = true := by simp [keq, bytes_beq, e]
    rw [hm, if_neg e']
    cases hf : mfind (.str k) (kvW g A) (i + 1) with
    | none =>
     rw [hf] at ih1
     refine ⟨?_, fun j w h => by cases h⟩
     simp only [setA, if_neg e]
     simp only [kvW, List.map_cons, List.cons_append] at ih1 ⊢
     rw [ih1]
    | some q =>
     obtain ⟨j, u⟩ := q
     rw [hf] at ih1
     have hle := ih2 j u hf
     refine ⟨?_, fun j' w' h => by simp only [Option.some.injEq, Prod.mk.injEq] at h; omega⟩
     simp only [setA, if_neg e]
     simp only [kvW, List.map_cons] at ih1 ⊢
     rw [show j - i = (j - (i + 1)) + 1 by omega, List.set_cons_succ, ih1]
 have h := (key A 0).1
 unfold mset
 cases hf : mfind (.str k) (kvW g A) 0 with
 | none => rw [hf] at h; exact h
 | some q => rw [hf] at h; simpa using h
theorem gset_kvW {g : α → AV} {k : ByteArray} (A : List (ByteArray × α)) (gm : MG) : gset (kvW g A) gm (.str k) = gsetA A gm k := by
 unfold gset gsetA
 cases h : lookA A k with
 | none => rw [mfind_none h]; rfl
 | some v => obtain ⟨j, hj⟩ := mfind_some (g := g) (i := 0) h; rw [hj]; rfl
def strMap (P : Program) (T e : TypeId) : Bool := match P.underlying T with
 | some (.map k e') => isStr P k && e' == e
 | _ => false
theorem strMap_eq {P : Program} {T e : TypeId} (h : strMap P T e = true) : mapTy P T = some (.string, e) := by
 unfold strMap at h
 split at h
 ·rename_i k e' hu
  simp only [Bool.and_eq_true, beq_iff_eq] at h
  obtain ⟨h1, rfl⟩ := h
  simp [mapTy, hu, isStr_eq h1]
 ·cases h
variable {P : Program} {af : AF} {ah : AH}
variable {d : Option Tmp} {T : TypeId} {ps : String} {es : Array Edge} {gd : Option (Nat × Bool)}
theorem AOp.lookS_hit (i e : Nat) {x y : Operand} {b : Nat} {g : α → AV} {A : List (ByteArray × α)} {gm : MG} {k : ByteArray} {v : α} {t : TypeId} {ok : Bool} (h : lookA A k = some v) (hx : aeval af x = some (.map b)) (hi : ah[i]? = some (.map b (kvW g A) gm)) (hy : aeval af y = some (.str k)) (ht : strMap P t e = true) :
  AOp P ⟨d, .lookup t x y ok, T, ps, es, gd⟩ af ah (D (if ok then .tup [g v, .bool true] else g v) ah) := by
 obtain ⟨j, hj⟩ := mfind_some (g := g) (i := 0) h
 exact AOp.lookup_hit hx hi hy (strMap_eq ht) rfl (keysOK_kvW g A) hj
theorem AOp.lookS_miss (i e : Nat) (zv : Value) {x y : Operand} {b : Nat} {g : α → AV} {A : List (ByteArray × α)} {gm : MG} {k : ByteArray} {t : TypeId} {ok : Bool} (h : lookA A k = none) (hx : aeval af x = some (.map b)) (hi : ah[i]? = some (.map b (kvW g A) gm)) (hy : aeval af y = some (.str k)) (ht : strMap P t e = true) (hz : (P.info? e).bind (·.zero) = some zv) :
  AOp P ⟨d, .lookup t x y ok, T, ps, es, gd⟩ af ah (D (if ok then .tup [ofConst zv, .bool false] else ofConst zv) ah) :=
 AOp.lookup_miss zv hx hi hy (strMap_eq ht) hz rfl (keysOK_kvW g A) (mfind_none h)
end
section
variable {α : Type} {C : Cx} {ds : List Deferred} {ks : List K} {af : AF} {ah : AH} {ops : Array Oper} {rest : List Oper}
theorem AL.setS (i e : Nat) (g : α → AV) (v : α) {x y z : Operand} {b : Nat} {A : List (ByteArray × α)} {gm : MG} {k : ByteArray} {t T : TypeId} {ps : String} {es : Array Edge} (hx : aeval af x = some (.map b)) (hi : ah[i]? = some (.map b (kvW g A) gm)) (hy : aeval af y = some (.str k)) (hz : aeval af z = some (g v)) (ht : strMap C.P t e = true)
  (hk : AL C ds ks ops rest af (ah.set i (.map b (kvW g (setA A k v)) (gsetA A gm k)))) : AL C ds ks ops (⟨none, .mapUpdate t x y z, T, ps, es, none⟩ :: rest) af ah :=
 AL.mapUpdate hx hi hy hz (strMap_eq ht) rfl (keysOK_kvW g A) (by rw [mset_kvW, gset_kvW]; exact hk)
end
section
variable {C : Cx} {ds : List Deferred} {ks : List K} {af : AF} {ah : AH} {ops : Array Oper} {rest : List Oper}
theorem AL.callQ {d : Option Tmp} {T : TypeId} {ps : String} {es : Array Edge} {f : FuncId} {y : Operand} {caps : List AV} {xs : Array Operand} {tys : Array TypeId} {args : List AV} {Φ : AEnd → AH → Prop} (hy : aeval af y = some (.fn f caps)) (hx : aevals af xs.toList = some args)
  (h : Tri C.P f (args ++ caps) ah Φ) (hd : okDst d C.n = true) (hk : ∀ v ah', Φ (.ret v) ah' → AL C ds ks ops rest (put af d v) ah') (hp : ∀ v ah', Φ (.pan v) ah' → APan C ds v ah') :
  AL C ds ks ops (⟨d, .call ⟨.value y, xs, tys⟩, T, ps, es, none⟩ :: rest) af ah :=
 AL.step rfl hd (AOp.call hy hx h) hk hp
end
section
variable {P : Program} {fn : Func} {n : Nat} {Fr R0 : Rg} {w0 : World} {Φ : AEnd → AH → Prop} {ks : List K} {af : AF} {ah : AH}
end
section
variable {C : Cx} {ds : List Deferred} {ks : List K} {af : AF} {ah : AH}
theorem APan.drop {v : AV} {ah' : AH} (h : ah'.Sublist ah) (k : APan C ds v ah') : APan C ds v ah :=
 .mk fun a w u g hu => k.out a w u (g.sub h) (hu.mv (Mv.same w fun b o hs => hs.elim .inl fun hr => .inr (reg_sub h hr)))
structure APanF (C : Cx) (ds : List Deferred) (v : AV) (af : AF) (ah : AH) : Prop where
 out : ∀ a w u, Good C ds af ah a w → Rel (Sof C.Fr ah) w v u → C.R (.panic [{ v := u, recovered := false }]) a w
end
theorem sel_all : ∀ (a b : AH), sel (List.replicate a.length true) (a ++ b) = a ∧ uns (List.replicate a.length true) (a ++ b) = b
 | [], b => ⟨by simp [sel], by cases b <;> simp [uns]⟩
 | x :: a, b => by
  have h := sel_all a b
  simp only [List.length_cons, List.replicate_succ, List.cons_append, sel, uns, h, and_self]
theorem Tri.behind {P : Program} {f : FuncId} {args : List AV} {a : AH} {Φ : AEnd → AH → Prop} (h : Tri P f args a Φ) (b : AH) : Tri P f args (a ++ b) (fun x h => ∃ h1, Φ x h1 ∧ h = h1 ++ b) := by
 have h1 := sel_all a b
 have h2 := Tri.frame (ah := a ++ b) (List.replicate a.length true) (by rw [h1.1]; exact h)
 rw [h1.2] at h2
 exact h2
section
variable {P : Program} {af : AF} {ah : AH} {d : Option Tmp} {T : TypeId} {ps : String} {es : Array Edge} {gd : Option (Nat × Bool)}
end
section
variable {P : Program} {fn : Func} {n : Nat} {Fr R0 : Rg} {w0 : World} {Φ : AEnd → AH → Prop} {ks : List K} {af : AF} {ah : AH} {ds : List Deferred}
end
section
variable {C : Cx} {ds : List Deferred} {ks : List K} {af : AF} {ah : AH} {ops : Array Oper} {rest : List Oper}
theorem AL.range (i e : Nat) (kd : TypeDesc) {dd : Nat} {x : Operand} {b : Nat} {kv : List (AV × AV)} {g : MG} {t T : TypeId} {ps : String} {es : Array Edge} (hx : aeval af x = some (.map b)) (hi : ah[i]? = some (.map b kv g)) (ht : mapTy C.P t = some (kd, e)) (hn : Nat.blt dd C.n = true)
  (hk : ∀ it, AL C ds ks ops rest ((dd, .ref it 0) :: af) (.iter it b g.clk [] :: ah)) : AL C ds ks ops (⟨some dd, .range t x, T, ps, es, none⟩ :: rest) af ah :=
 AL.step rfl hn (AOp.range hx hi ht) (by rintro _ _ ⟨it, e, rfl⟩; injection e with e; subst e; exact hk it) (by rintro _ _ ⟨it, e, _⟩; cases e)
theorem AL.next (i j : Nat) (idx : List Nat) {dd : Nat} {x : Operand} {it b : Nat} {kv : List (AV × AV)} {g : MG} {T : TypeId} {ps : String} {es : Array Edge} (hx : aeval af x = some (.ref it 0)) (hj : ah[j]? = some (.iter it b g.clk (seenOf g idx))) (hi : ah[i]? = some (.map b kv g)) (hidx : ∀ k ∈ idx, k < kv.length) (hn : Nat.blt dd C.n = true)
  (hend : (∀ k, k < kv.length → k ∈ idx) → AL C ds ks ops rest ((dd, .tup [.bool false]) :: af) ah)
  (hk : ∀ k key v, k ∉ idx → kv[k]? = some (key, v) → AL C ds ks ops rest ((dd, .tup [.bool true, key, v]) :: af) (ah.set j (.iter it b g.clk (seenOf g (idx ++ [k]))))) : AL C ds ks ops (⟨some dd, .next x false, T, ps, es, none⟩ :: rest) af ah := by
 refine AL.step rfl hn (AOp.next hx hj hi hidx) ?_ ?_
 ·rintro v h (⟨h1, e, rfl⟩ | ⟨k, key, u, h1, h2, e, rfl⟩)
  ·injection e with e; subst e; exact hend h1
  ·injection e with e; subst e; exact hk k key u h1 h2
 ·rintro v h (⟨h1, e, rfl⟩ | ⟨k, key, u, h1, h2, e, rfl⟩) <;> cases e
end
section
variable {C : Cx} {ds : List Deferred} {ks : List K} {ops : Array Oper} {af : AF} {aq ae : AH} {n : Nat} {rem : List Nat} {vs : List AV}
theorem AX.three (i j k : Nat) (hr : readyL ops rem = [i, j, k]) (h : AXS C ds ks ops af aq n rem vs ae i) (h' : AXS C ds ks ops af aq n rem vs ae j) (h'' : AXS C ds ks ops af aq n rem vs ae k) : AX C ds ks ops af aq (n + 1) rem vs ae :=
 AX.next _ hr fun x hx => by
  simp only [List.mem_cons, List.not_mem_nil, or_false] at hx
  rcases hx with rfl | rfl | rfl <;> assumption
end
theorem nodup_bound : ∀ (n : Nat) (l : List Nat), l.Nodup → (∀ k ∈ l, k < n) → l.length ≤ n
 | 0, l, _, h => by
  cases l with
  | nil => simp
  | cons a l => have := h a (by simp); omega
 | n + 1, l, hn, h => by
  have h1 := nodup_bound n (l.erase n) (hn.erase n) (fun k hk => by
   have h2 := h k (List.mem_of_mem_erase hk)
   have : k ≠ n := fun e => by subst e; exact (hn.mem_erase_iff.1 hk).1 rfl
   omega)
  have h2 : l.length ≤ (l.erase n).length + 1 := by
   rw [List.length_erase]; split <;> omega
  omega
theorem TriD.mono {P : Program} {f : FuncId} {args : List AV} {ah : AH} {u : FrameMode} {Φ Ψ : FrameMode → AH → Prop} (h : TriD P f args ah u Φ) (k : ∀ u' h, Φ u' h → Ψ u' h) : TriD P f args ah u Ψ :=
 ⟨h.call, fun Fr w vs hst hrel => (h.out Fr w vs hst hrel).mono fun e u' w' ⟨h1, ah', h2, h3⟩ => ⟨h1, ah', k _ _ h2, h3⟩⟩
theorem APanF.perm {C : Cx} {ds : List Deferred} {v : AV} {af : AF} {a b : AH} (hp : a.Perm b) (h : APanF C ds v af b) : APanF C ds v af a := .mk fun ac w u g hu =>
 h.out ac w u { g with st := g.st.perm hp, old := fun x o hb hr => g.old x o hb ((reg_perm hp).2 hr), fr := by rw [← Sof_perm hp]; exact g.fr } (by rw [← Sof_perm hp]; exact hu)
section
variable {P : Program} {af : AF} {ah : AH} {d : Option Tmp} {T : TypeId} {ps : String} {es : Array Edge} {gd : Option (Nat × Bool)}
def nilS : AV := .val (.slice none 0 0)
theorem AOp.callV {f : FuncId} {y : Operand} {caps : List AV} {xs : Array Operand} {tys : Array TypeId} {args : List AV} {Φ : AEnd → AH → Prop} (hy : aeval af y = some (.fn f caps)) (hx : ∀ (S : Rg) (w : World) (a : Act), AFRel S w af a → RelVs S w args (xs.toList.map a.eval))
  (h : Tri P f (args ++ caps) ah Φ) : AOp P ⟨d, .call ⟨.value y, xs, tys⟩, T, ps, es, gd⟩ af ah Φ := .mk fun Fr a w hst hf => by
 obtain ⟨vs, hv, hc⟩ := (aeval_rel hf hy).fn
 have hr := hx _ _ _ hf
 have hrun : (execOp a.eval ⟨d, .call ⟨.value y, xs, tys⟩, T, ps, es, gd⟩).run P w = .ok (.enter f ((xs.toList.map a.eval ++ vs).toArray)) w := by
  simp only [execOp, resolve, hv, Deferred.ofValue, Sem.run_bind, Sem.run_pure, Result.andThen_ok, invoke]
  rw [run_callFunc h.1]
  congr 2
  apply Array.ext'
  simp
 rw [hrun]
 exact h.2 Fr w _ hst (hr.append hc)
theorem AOp.cap_nil {x : Operand} {t : TypeId} (ht : lenTy P t = some false) (hx : aeval af x = some nilS) : AOp P ⟨d, .call ⟨.builtin .cap, #[x], #[t]⟩, T, ps, es, gd⟩ af ah (D (.int .i64 0) ah) :=
 AOp.of_pure fun S a w hfr _ => by
  have hu := (aeval_rel hfr hx).val
  obtain ⟨e, ht⟩ := lenTy_sl ht
  exact ⟨.int .i64 0, by simp [execOp, resolve, invoke, builtin, hu, Builtin.cap_, goInt, run_underlying ht], mk_int⟩
theorem AOp.len_nil {x : Operand} {t : TypeId} (ht : lenTy P t = some false) (hx : aeval af x = some nilS) : AOp P ⟨d, .call ⟨.builtin .len, #[x], #[t]⟩, T, ps, es, gd⟩ af ah (D (.int .i64 0) ah) :=
 AOp.of_pure fun S a w hfr _ => by
  have hu := (aeval_rel hfr hx).val
  obtain ⟨e, ht⟩ := lenTy_sl ht
  exact ⟨.int .i64 0, by simp [execOp, resolve, invoke, builtin, hu, Builtin.len_, Builtin.lenOf, goInt, run_underlying ht], mk_int⟩
theorem AOp.cut_nil {x : Operand} {lo hi : Option Operand} {t sz : Nat} (ht : esize P t = some sz) (hx : aeval af x = some nilS) (el : bndIs af lo 0 0) (eh : bndIs af hi 0 0) : AOp P ⟨d, .slice t x lo hi none, T, ps, es, gd⟩ af ah (D nilS ah) :=
 AOp.of_pure fun S a w hf _ => by
  have hu := (aeval_rel hf hx).val
  unfold esize at ht
  split at ht
  ·rename_i e hut
   cases hi' : P.info? e with
   | none => simp [hi'] at ht
   | some i =>
    have hb := run_bounds (P := P) (c := 0) (sl := true) (w := w) hf el eh (Nat.le_refl _) (Nat.le_refl _)
    refine ⟨.slice none 0 0, by simp [execOp, Instr.sliceAt, run_underlying hut, Instr.slice, hu, hb, sizeOf, typeInfo, hi'], ?_⟩
    exact ⟨by simp [nilS, RelC, Value.cells], by simp [nilS, Shape]⟩
  ·cases ht
theorem AOp.cut_osl {x : Operand} {hi : Option Operand} {t sz b n c h : Nat} (ht : esize P t = some sz) (hx : aeval af x = some (.osl b n c)) (eh : bndIs af hi n h) (hh : h ≤ c) : AOp P ⟨d, .slice t x none hi none, T, ps, es, gd⟩ af ah (D (.osl b h c) ah) :=
 AOp.of_pure fun S a w hf _ => by
  obtain ⟨hu, hl1, hl2⟩ := (aeval_rel hf hx).osl
  unfold esize at ht
  split at ht
  ·rename_i e hut
   cases hi' : P.info? e with
   | none => simp [hi'] at ht
   | some i =>
    have hb := run_bounds (P := P) (w := w) (c := c) (sl := true) hf (bndIs.none (af := af) (n := 0)) eh (Nat.zero_le _) hh
    refine ⟨.slice (some ⟨b, 0, none⟩) h c, ?_, mk_osl hh hl2⟩
    simp only [Option.map_none] at hb
    simp [execOp, Instr.sliceAt, run_underlying hut, Instr.slice, hu, hb, sizeOf, typeInfo, hi', addr_add]
  ·cases ht
theorem appRow {t e bytes : Nat} {c : Value} (h : rowTy P t = some (e, c, bytes)) : appTy P t = some (e, 1, bytes) := by
 obtain ⟨hu, i, z, hi, hz, hzc, hs, hb⟩ := rowTy_parts h
 unfold appTy
 rw [hu]
 simp only [hi, hz, hzc, hs, hb]
 rfl
theorem AOp.append_zeros {x y : Operand} {n : Nat} {t t2 e bytes : Nat} {c : Value} {z : AV} (hx : aeval af x = some nilS) (hy : aeval af y = some (.int .i64 n)) (h0 : 0 < n) (ht : rowTy P t = some (e, c, bytes)) (ht2 : (match P.underlying t2 with | some (.int _) => true | _ => false) = true) (hz : z.flat = some [c]) (hb : n * bytes ≤ 16777216) (hn : n ≤ 16777216) :
  AOp P ⟨d, .call ⟨.builtin .append, #[x, y], #[t, t2]⟩, T, ps, es, gd⟩ af ah (fun r h => ∃ b k, n ≤ k ∧ r = .ret (.osl b n k) ∧ h = .row b (List.replicate k z) :: ah) := .mk fun Fr a w hst hf => by
 have e1 := (aeval_rel hf hx).val
 have e2 := (aeval_rel hf hy).int
 obtain ⟨hu, i, zv, hi, hzv, hzc, hs, hbt⟩ := rowTy_parts ht
 obtain ⟨kn, ht2'⟩ : ∃ kn, P.underlying t2 = some (.int kn) := by
  split at ht2
  ·exact ⟨_, by assumption⟩
  ·cases ht2
 have hold : (Builtin.firstCells i.size 0 (.slice none 0 0)).run P w.drew = .ok ([] : List Value).toArray w.drew := by simp [Builtin.firstCells]
 have hrun := Lib.run_append_grow_zeros w t t2 T e i zv .i64 kn hu ht2' hi hzv none 0 0 [] hold n h0 (by rw [hs]; omega) (by omega) (by simp; omega) (by rw [hbt]; omega) (by rw [Nat.zero_add]; exact growslice_fits (by omega) (by rw [hbt]; omega))
 rw [Nat.zero_add, hzc] at hrun
 generalize hk : grownCap w n 0 e = k at hrun
 have hk1 : n ≤ k := by rw [← hk]; exact grownCap_ge w n 0 e
 have hk2 : k ≤ maxLen := by rw [← hk]; exact grownCap_le_maxLen w n 0 e (by unfold maxLen; omega)
 have hcs : ([] : List Value).toArray ++ Builtin.zeroCells #[c] n ++ Builtin.zeroCells #[c] (k - n) = Array.replicate k c := by
  apply Array.ext'
  simp only [Array.toList_append, zeroCells_one, List.nil_append, List.replicate_append_replicate, Array.toList_replicate]
  congr 1
  omega
 rw [hcs] at hrun
 have hrun' : (execOp a.eval ⟨d, .call ⟨.builtin .append, #[x, y], #[t, t2]⟩, T, ps, es, gd⟩).run P w = .ok (.value (.slice (some ⟨w.heap.size, 0, none⟩) n k)) (w.drew.alloc (.cells (Array.replicate k c) e)) := by
  simp only [execOp, resolve, invoke, builtin, Sem.run_bind, Sem.run_pure, Result.andThen_ok, List.map_toArray, List.map_cons, List.map_nil, e1, e2, hrun]
 rw [hrun']
 have hext0 : Ext (fun _ _ => False) w (w.drew.alloc (.cells (Array.replicate k c) e)) :=
  ⟨rfl, rfl, rfl, by simp, fun k hk _ => Below.heap_alloc w.drew _ k hk, fun ad v hc _ => (World.cell?_alloc_lt w.drew _ ad (cell_lt hc)).trans hc⟩
 obtain ⟨h1, h2, h3⟩ := hst.cons (x := .row w.heap.size (List.replicate k z)) (b := w.heap.size) rfl (Nat.le_refl _) (by simp) hext0 (fun m => ⟨_, e, heap_alloc_new w.drew _, fun j v hj => by
  obtain ⟨hk1, rfl⟩ : j < k ∧ z = v := by
   rw [List.getElem?_replicate] at hj
   split at hj
   ·exact ⟨‹_›, Option.some.inj hj⟩
   ·cases hj
  exact ⟨c, by simp [hk1], RelC.flat z _ hz⟩⟩)
 exact ⟨_, _, ⟨_, _, hk1, rfl, rfl⟩, ⟨_, rfl, mk_osl hk1 hk2⟩, h1, h2, h3⟩
theorem AOp.append_osl {x y : Operand} {b n c i : Nat} {xs ys : List AV} {v : AV} {t t2 e bytes : Nat} {c0 : Value} (hx : aeval af x = some (.osl b n c)) (hi : ah[i]? = some (.row b xs)) (hc : c ≤ xs.length) (hy : aeval af y = some v) (hs : srcOf v = some ys)
  (ht : rowTy P t = some (e, c0, bytes)) (ht2 : isSlTy P t2 = true) (hys : ∀ y ∈ ys, y.size = 1) (hok : AV.cellsOK ys = true) (hroom : n + ys.length ≤ c) :
  AOp P ⟨d, .call ⟨.builtin .append, #[x, y], #[t, t2]⟩, T, ps, es, gd⟩ af ah (D (.osl b (n + ys.length) c) (ah.set i (.row b (xs.take n ++ ys ++ xs.drop (n + ys.length))))) := .mk fun Fr a w hst hf => by
 obtain ⟨hu, hl1, hl2⟩ := (aeval_rel hf hx).osl
 obtain ⟨A2, c2, hu2, hl2', hm2, hrow2⟩ := srcOf_rel (aeval_rel hf hy) hs
 obtain ⟨ds, d1, d2, d3⟩ := run_first (P := P) (w' := w) (c := c2) hrow2 hys rfl
 rw [Nat.mul_one] at d3
 obtain ⟨w', r1, k1, k2, k3⟩ := hst.laid (P := P) (ys := ys) (ds := ds) (o := n) hi (by omega) d3 (RelCs.cellOK _ ds d2 hok) (fun j y hj => RelCs.get1 d2 hys j y hj)
 have hrun := run_append_room (ty := T) (base := some ⟨b, 0, none⟩) (n := n) (cap := c) (appRow ht) ht2 d1 hroom
 simp only [Nat.mul_one, addr_add, Nat.zero_add, r1, Result.andThen_ok] at hrun
 have hrun' : (execOp a.eval ⟨d, .call ⟨.builtin .append, #[x, y], #[t, t2]⟩, T, ps, es, gd⟩).run P w = .ok (.value (.slice (some ⟨b, 0, none⟩) (n + ys.length) c)) w' := by
  simp only [execOp, resolve, invoke, builtin, Sem.run_bind, Sem.run_pure, Result.andThen_ok, List.map_toArray, List.map_cons, List.map_nil, hu, hu2, hrun]
 rw [hrun']
 exact ⟨_, _, ⟨rfl, rfl⟩, ⟨_, rfl, mk_osl hroom hl2⟩, k1, k2, k3⟩
end
section
variable {C : Cx} {ds : List Deferred} {ks : List K} {af : AF} {ah : AH} {ops : Array Oper} {rest : List Oper}
theorem Good.freeze_pre {a : Act} {w : World} (g : Good C ds af ah a w) {i d b n c : Nat} {xs : List AV} (hi : ah[i]? = some (.row b xs)) (hd : get af d = some (.osl b n c)) (hn : n ≤ xs.length) (hs : ∀ x ∈ xs, x.size = 1) : Good C ds ((d, .sl (xs.take n)) :: af) (ah.eraseIdx i) a w := by
 have g' := g.sub (List.eraseIdx_sublist ah i)
 obtain ⟨cs, t, hh, hr⟩ := g.st.rel _ (List.mem_of_getElem? hi)
 have hbm := List.mem_of_getElem? hi
 have hsof : ∀ b o, Sof C.Fr (ah.eraseIdx i) b o → Sof C.Fr ah b o := fun b o hs => hs.elim .inl fun hr => .inr (reg_sub (List.eraseIdx_sublist ah i) hr)
 refine { g' with fr := fun j v hj => ?_ }
 rw [get_cons] at hj
 by_cases e : d = j
 ·subst e
  rw [if_pos rfl] at hj
  obtain rfl := Option.some.inj hj
  obtain ⟨hu, hl1, hl2⟩ := (g.fr d _ hd).osl
  rw [hu]
  refine ⟨?_, by simp [Shape]⟩
  show RelC _ _ (.sl (xs.take n)) [_]
  simp only [RelC]
  have hln : (xs.take n).length = n := by simp; omega
  refine ⟨_, c, by rw [hln], by rw [hln]; exact hl1, hl2, fun _ => ⟨b, 0, 1, rfl, ?_⟩⟩
  have hno : ∀ o, ¬ Sof C.Fr (ah.eraseIdx i) b o := by
   rintro o (hF | ⟨y, hy, hy'⟩)
   ·exact g.st.fr _ hbm b rfl _ hF
   ·have hyb := reg_blk hy'
    obtain ⟨e1, _⟩ := mem_split hi
    have hn := g.st.nodup
    rw [e1, List.filterMap_append, List.nodup_append, List.filterMap_cons] at hn
    simp only [Own.blk] at hn
    rw [List.eraseIdx_eq_take_drop_succ] at hy
    rcases List.mem_append.1 hy with hy | hy
    ·exact hn.2.2 b (List.mem_filterMap.2 ⟨y, hy, hyb⟩) b (by simp) rfl
    ·exact (List.nodup_cons.1 hn.2.1).1 (List.mem_filterMap.2 ⟨y, hy, hyb⟩)
  have key : ∀ (l : List AV) (o : Nat), (∀ (k : Nat) x, l[k]? = some x → ∃ v, cs[o + k]? = some v ∧ RelC (Sof C.Fr ah) w x [v]) → RelRow (Sof C.Fr (ah.eraseIdx i)) w l 1 b o := by
   intro l
   induction l with
   | nil => intro o _; simp [RelRow]
   | cons x l ih =>
    intro o h
    simp only [RelRow]
    obtain ⟨v, hv, hrv⟩ := h 0 x rfl
    refine ⟨⟨[v], rfl, RelC.mv (Mv.same w hsof) _ _ hrv, fun j u hj => ⟨hno _, ?_⟩⟩, ih (o + 1) fun k y hk => ?_⟩
    ·cases j with
     | zero => simp only [List.getElem?_cons_zero, Option.some.injEq] at hj; subst hj; rw [cell_of_row w b _ cs t (0, 0) hh]; exact hv
     | succ j => simp at hj
    ·obtain ⟨v, hv, hrv⟩ := h (k + 1) y (by simpa using hk)
     exact ⟨v, by rw [show o + 1 + k = o + (k + 1) by omega]; exact hv, hrv⟩
  refine key (xs.take n) 0 fun k x hk => ?_
  rw [Nat.zero_add]
  refine hr k x ?_
  have hlt := (List.getElem?_eq_some_iff.1 hk).1
  rw [List.getElem?_take, if_pos (by simp at hlt; omega)] at hk
  exact hk
 ·rw [if_neg e] at hj
  exact g'.fr j v hj
theorem AW.freeze_pre (i d : Nat) {b n c : Nat} {xs : List AV} (hi : ah[i]? = some (.row b xs)) (hd : get af d = some (.osl b n c)) (hn : n ≤ xs.length) (hs : ∀ x ∈ xs, x.size = 1) (k : AW C ds ks ((d, .sl (xs.take n)) :: af) (ah.eraseIdx i)) : AW C ds ks af ah := .mk fun a w g => k.out a w (g.freeze_pre hi hd hn hs)
theorem AL.append_zeros {dd : Nat} {x y : Operand} {n : Nat} {t t2 e bytes : Nat} {c : Value} {z : AV} {T : TypeId} {ps : String} {es : Array Edge} (hx : aeval af x = some nilS) (hy : aeval af y = some (.int .i64 n)) (h0 : 0 < n) (ht : rowTy C.P t = some (e, c, bytes)) (ht2 : (match C.P.underlying t2 with | some (.int _) => true | _ => false) = true) (hz : z.flat = some [c]) (hb : n * bytes ≤ 16777216) (hn : n ≤ 16777216) (hd : Nat.blt dd C.n = true)
  (hk : ∀ b k, n ≤ k → AL C ds ks ops rest ((dd, .osl b n k) :: af) (.row b (List.replicate k z) :: ah)) : AL C ds ks ops (⟨some dd, .call ⟨.builtin .append, #[x, y], #[t, t2]⟩, T, ps, es, none⟩ :: rest) af ah :=
 AL.step rfl hd (AOp.append_zeros hx hy h0 ht ht2 hz hb hn) (by rintro _ _ ⟨b, k, h, e, rfl⟩; injection e with e; subst e; exact hk b k h) (by rintro _ _ ⟨b, k, h, e, _⟩; cases e)
end
def Agree : Nat → List Nat → List AV → List AV → Prop
 | k, rem, v :: vs, u :: us => (memN k rem = true ∨ v = u) ∧ Agree (k + 1) rem vs us
 | _, _, [], [] => True
 | _, _, _, _ => False
theorem Agree.spec : ∀ {vs us : List AV} {k : Nat} {rem : List Nat}, Agree k rem vs us → vs.length = us.length ∧ ∀ y, (k + y) ∉ rem → vs.getD y .any = us.getD y .any
 | [], [], k, rem, _ => ⟨rfl, fun _ _ => rfl⟩
 | v :: vs, u :: us, k, rem, h => by
  obtain ⟨h1, h2⟩ := h
  obtain ⟨g1, g2⟩ := Agree.spec h2
  refine ⟨by simp [g1], fun y hy => ?_⟩
  cases y with
  | zero =>
   rcases h1 with h1 | h1
   ·exact absurd (memN_iff.1 h1) (by simpa using hy)
   ·simp [h1]
  | succ y => simpa using g2 y (by rw [show k + 1 + y = k + (y + 1) by omega]; exact hy)
 | [], u :: us, _, _, h => h.elim
 | v :: vs, [], _, _, h => h.elim
def RestOK (P : Program) (ops : Array Oper) (af : AF) (ae : AH) (us : List AV) : List Nat → Prop
 | [] => True
 | i :: l => (∃ o, ops[i]? = some o ∧ o.guard = none ∧ AOp P o (keep (oslots ops o) (frameOf ops us af (down i))) ae (D (us.getD i .any) ae)) ∧ RestOK P ops af ae us l
theorem RestOK.mem {P : Program} {ops : Array Oper} {af : AF} {ae : AH} {us : List AV} : ∀ {l : List Nat}, RestOK P ops af ae us l → ∀ i ∈ l, ∃ o, ops[i]? = some o ∧ o.guard = none ∧ AOp P o (keep (oslots ops o) (frameOf ops us af (down i))) ae (D (us.getD i .any) ae)
 | [], _, i, h => by cases h
 | j :: l, h, i, hi => by
  rcases List.mem_cons.1 hi with rfl | hi
  ·exact h.1
  ·exact RestOK.mem h.2 i hi
section
variable {C : Cx} {ds : List Deferred} {ks : List K} {ops : Array Oper} {af : AF} {aq : AH}
theorem AX.rest_core {ae : AH} {us : List AV} (hd : drawOK ops = true) (hk : AW C ds ks (frameOf ops us af (down ops.size)) (ae ++ aq)) : ∀ (n : Nat) (rem : List Nat) (vs : List AV), rem.length = n → rem.Nodup → (∀ i ∈ rem, i < ops.size ∧ i < vs.length) →
  (∀ y, y ∉ rem → vs.getD y .any = us.getD y .any) → (∀ i ∈ rem, ∃ o, ops[i]? = some o ∧ o.guard = none ∧ AOp C.P o (keep (oslots ops o) (frameOf ops us af (down i))) ae (D (us.getD i .any) ae)) → AX C ds ks ops af aq n rem vs ae := by
 intro n
 induction n with
 | zero =>
  intro rem vs hl hn hlt hag hq
  obtain rfl := List.length_eq_zero_iff.1 hl
  refine AW.weaken hk fun s v hs => ?_
  rw [get_frameOf] at hs ⊢
  cases hw : wr ops s (down ops.size) with
  | none => rw [hw] at hs; exact hs
  | some x => rw [hw] at hs; simp only at hs ⊢; rw [hag x (by simp)]; exact hs
 | succ n ih =>
  intro rem vs hl hn hlt hag hq i hi hready
  obtain ⟨o, ho, hg, hop⟩ := hq i hi
  have hkeep : keep (oslots ops o) (frameOf ops vs af (down i)) = keep (oslots ops o) (frameOf ops us af (down i)) := by
   refine keep_congr fun s hs => ?_
   rw [get_frameOf, get_frameOf]
   cases hw : wr ops s (down i) with
   | none => rfl
   | some y =>
    simp only
    obtain ⟨l1, l2, e, hy, _⟩ := wr_some hw
    have hyi : y < i := mem_down.1 (by rw [e]; simp)
    have hcl := drawOK_clash hd hyi (hlt i hi).1 (clash_comm (clash_slot ho hs hy))
    have hyr : y ∉ rem := fun hm => by rw [hready y hm] at hcl; cases hcl
    rw [hag y hyr]
  refine ⟨o, ho, .inr ⟨by simp [gdo, hg], D (us.getD i .any) ae, hkeep ▸ hop, ?_, ?_⟩⟩
  ·rintro v h ⟨e, rfl⟩
   injection e with e
   subst e
   refine ih (rem.erase i) _ (by rw [List.length_erase_of_mem hi, hl]; rfl) (hn.erase i) (fun j hj => ?_) (fun y hy => ?_) (fun j hj => hq j (List.mem_of_mem_erase hj))
   ·have := hlt j (List.mem_of_mem_erase hj); simpa using this
   ·by_cases e : i = y
    ·subst e
     rw [List.getD_eq_getElem?_getD, List.getElem?_set_self (hlt i hi).2]; rfl
    ·rw [getD_set_ne e]
     exact hag y fun hm => hy ((hn.mem_erase_iff).2 ⟨fun h => e h.symm, hm⟩)
  ·rintro v h ⟨e, _⟩; cases e
theorem AX.rest {ae : AH} {n : Nat} {rem : List Nat} {vs : List AV} (us : List AV) (af' : AF) (hd : drawOK ops = true) (hr : okE rem ops.size = true) (hn : Nat.beq rem.length n = true) (hvl : Nat.beq us.length ops.size = true) (hag : Agree 0 rem vs us) (hq : RestOK C.P ops af ae us rem)
  (he : keep (af'.map (·.1)) (frameOf ops us af (down ops.size)) = af') (k : AW C ds ks af' (ae ++ aq)) : AX C ds ks ops af aq n rem vs ae := by
 obtain ⟨g1, g2⟩ := hag.spec
 obtain ⟨h1, h2⟩ := okE_iff hr
 refine AX.rest_core hd (AW.weaken k fun i v hi => get_keep (he ▸ hi)) n rem vs (by simpa using hn) h1 (fun i hi => ⟨h2 i hi, ?_⟩) (fun y hy => g2 y (by simpa using hy)) hq.mem
 have := h2 i hi
 have hv : us.length = ops.size := by simpa using hvl
 omega
end
section
variable {C : Cx} {ds : List Deferred} {ks : List K} {af : AF} {aq ae : AH} {ops : Array Oper} {n : Nat} {rem : List Nat} {vs : List AV} {q : Nat}
structure AXO (C : Cx) (ds : List Deferred) (ks : List K) (ops : Array Oper) (af : AF) (aq : AH) (n : Nat) (rem : List Nat) (vs : List AV) (ae : AH) (q : Nat) (o : Oper) (f : AF) : Prop where
 out : ∃ Φ : AEnd → AH → Prop, AOp C.P o f ae Φ ∧ (∀ v h, Φ (.ret v) h → AX C ds ks ops af aq n (rem.erase q) (vs.set q v) h) ∧ (∀ v h, Φ (.pan v) h → APan C ds v (h ++ aq))
theorem AXS.at {o : Oper} {f : AF} (ho : ops[q]? = some o) (hkp : keep (oslots ops o) (frameOf ops vs af (down q)) = f) (h : AXO C ds ks ops af aq n rem vs ae q o f) (hg : o.guard = none := by exact rfl) : AXS C ds ks ops af aq n rem vs ae q := by
 obtain ⟨Φ, h1, h2, h3⟩ := h.out
 exact AXS.step ho hg hkp h1 h2 h3
theorem AX.o (q : Nat) {o : Oper} {f : AF} (h : AXO C ds ks ops af aq n rem vs ae q o f) (ho : ops[q]? = some o := by exact rfl) (hkp : keep (oslots ops o) (frameOf ops vs af (down q)) = f := by exact rfl) (hg : o.guard = none := by exact rfl) (hr : readyL ops rem = [q] := by kernel_rfl) : AX C ds ks ops af aq (n + 1) rem vs ae := AX.one q hr (AXS.at ho hkp h hg)
theorem AX.at (q : Nat) (hr : readyL ops rem = [q]) {o : Oper} {f : AF} (ho : ops[q]? = some o) (hkp : keep (oslots ops o) (frameOf ops vs af (down q)) = f) (hg : o.guard = none) (h : AXO C ds ks ops af aq n rem vs ae q o f) : AX C ds ks ops af aq (n + 1) rem vs ae := AX.one q hr (AXS.at ho hkp h hg)
theorem AX.done_keep (is : List Nat) (k : AW C ds ks (keep is (frameOf ops vs af (down ops.size))) (ae ++ aq)) : AX C ds ks ops af aq 0 rem vs ae := AW.weaken k fun i v hi => get_keep hi
variable {o : Oper} {f : AF}
theorem AXO.d {v : AV} {ae' : AH} (h : AOp C.P o f ae (D v ae')) (hk : AX C ds ks ops af aq n (rem.erase q) (vs.set q v) ae') : AXO C ds ks ops af aq n rem vs ae q o f :=
 ⟨_, h, by rintro v' h' ⟨e, rfl⟩; injection e with e; subst e; exact hk, by rintro v' h' ⟨e, _⟩; cases e⟩
theorem AXO.e {v : AV} (hk : AX C ds ks ops af aq n (rem.erase q) (vs.set q v) ae) (h : evalOp f o.op = some v := by exact rfl) : AXO C ds ks ops af aq n rem vs ae q o f := .d (AOp.ev h) hk
theorem AXO.append {x y : Operand} {xs ys : List AV} {tb : Option Nat} {tc i e sz bytes dd : Nat} {v : AV} {t t2 T : TypeId} {ps : String} {es : Array Edge} (hx : aeval f x = some (.slt xs tb tc)) (hi : ae[i]? = some (.tail tb xs.length tc sz)) (hy : aeval f y = some v) (hs : srcOf v = some ys)
  (ht : appTy C.P t = some (e, sz, bytes)) (ht2 : isSlTy C.P t2 = true) (hxs : ∀ x ∈ xs, x.size = sz) (hys : ∀ y ∈ ys, y.size = sz) (hok : AV.cellsOK ys = true) (hb : (xs.length + ys.length) * bytes ≤ 140737488355328) (h63 : xs.length + ys.length ≤ 9223372036854775807) (hn : Nat.blt dd C.n = true)
  (hk : ∀ b' c', AX C ds ks ops af aq n (rem.erase q) (vs.set q (.slt (xs ++ ys) b' c')) (ae.set i (.tail b' (xs ++ ys).length c' sz))) : AXO C ds ks ops af aq n rem vs ae q ⟨some dd, .call ⟨.builtin .append, #[x, y], #[t, t2]⟩, T, ps, es, none⟩ f :=
 ⟨_, AOp.append hx hi hy hs ht ht2 hxs hys hok hb h63, by rintro _ _ ⟨b', c', e, rfl⟩; injection e with e; subst e; exact hk b' c', by rintro _ _ ⟨b', c', e, _⟩; cases e⟩
theorem AXO.lit_own {t T e sz k dd : Nat} {parts : Array (Nat × Operand)} {xs : List Operand} {us : List AV} {ps : String} {es : Array Edge} (ht : litTy C.P t = some (e, sz)) (hp : litOps 0 parts.toList = some xs) (hx : aevals f xs = some us) (hn : us.length = k) (hsz : ∀ v ∈ us, v.size = sz) (hb : k * sz ≤ 16777216)
  (hk : ∀ b, AX C ds ks ops af aq n (rem.erase q) (vs.set q (.slt us (some b) k)) (.tail (some b) k k sz :: ae)) : AXO C ds ks ops af aq n rem vs ae q ⟨some dd, .buildSlice t k parts, T, ps, es, none⟩ f :=
 ⟨_, AOp.lit_own ht hp hx hn hsz hb, by rintro _ _ ⟨b, e, rfl⟩; injection e with e; subst e; exact hk b, by rintro _ _ ⟨b, e, _⟩; cases e⟩
theorem AXO.makeSlice {x y : Operand} {k dd : Nat} {t e bytes T : TypeId} {c : Value} {z : AV} {ps : String} {es : Array Edge} (hx : aeval f x = some (.int .i64 k)) (hy : aeval f y = some (.int .i64 k)) (ht : rowTy C.P t = some (e, c, bytes)) (hz : z.flat = some [c]) (hb : k * bytes ≤ 16777216) (hn : k ≤ 16777216)
  (hk : ∀ b, AX C ds ks ops af aq n (rem.erase q) (vs.set q (.osl b k k)) (.row b (List.replicate k z) :: ae)) : AXO C ds ks ops af aq n rem vs ae q ⟨some dd, .makeSlice t x y, T, ps, es, none⟩ f :=
 ⟨_, AOp.makeSlice hx hy ht hz hb hn, by rintro _ _ ⟨b, e, rfl⟩; injection e with e; subst e; exact hk b, by rintro _ _ ⟨b, e, _⟩; cases e⟩
theorem AXO.callQ {d : Option Tmp} {T : TypeId} {ps : String} {es : Array Edge} {fid : FuncId} {y : Operand} {caps : List AV} {xs : Array Operand} {tys : Array TypeId} {args : List AV} {Φ : AEnd → AH → Prop} (hy : aeval f y = some (.fn fid caps)) (hx : aevals f xs.toList = some args)
  (h : Tri C.P fid (args ++ caps) ae Φ) (hd : okDst d C.n = true) (hk : ∀ v ae', Φ (.ret v) ae' → AX C ds ks ops af aq n (rem.erase q) (vs.set q v) ae') (hp : ∀ v ae', Φ (.pan v) ae' → APan C ds v (ae' ++ aq)) :
  AXO C ds ks ops af aq n rem vs ae q ⟨d, .call ⟨.value y, xs, tys⟩, T, ps, es, none⟩ f := ⟨_, AOp.call hy hx h, hk, hp⟩
theorem AXO.store_leaf (i : Nat) {x y : Operand} {b off : Nat} {c c' v : AV} {t T : TypeId} {ps : String} {es : Array Edge} (hx : aeval f x = some (.ref b off)) (hy : aeval f y = some v) (hi : ae[i]? = some (.box b c)) (hs : c.upd off v = some c') (hok : v.cellOK = true)
  (ht : tkind C.P t = some (v.isSt, v.size)) (hk : ∀ u, AX C ds ks ops af aq n (rem.erase q) (vs.set q u) (ae.set i (.box b c'))) : AXO C ds ks ops af aq n rem vs ae q ⟨none, .store t x y, T, ps, es, none⟩ f :=
 ⟨_, AOp.store_box hx hy hi hs hok ht, by rintro v h ⟨_, rfl⟩; exact hk v, by rintro _ _ ⟨⟨_, e⟩, _⟩; cases e⟩
theorem AXO.sl (i : Nat) {x y : Operand} {b off : Nat} {c c' v : AV} {t T : TypeId} {ps : String} {es : Array Edge} (hk : ∀ u, AX C ds ks ops af aq n (rem.erase q) (vs.set q u) (ae.set i (.box b c'))) (hx : aeval f x = some (.ref b off) := by exact rfl) (hy : aeval f y = some v := by exact rfl) (hi : ae[i]? = some (.box b c) := by exact rfl) (hs : c.upd off v = some c' := by exact rfl) (hok : v.cellOK = true := by exact rfl)
  (ht : tkind C.P t = some (v.isSt, v.size) := by kernel_rfl) : AXO C ds ks ops af aq n rem vs ae q ⟨none, .store t x y, T, ps, es, none⟩ f := .store_leaf i hx hy hi hs hok ht hk
theorem AXO.store_cell (i : Nat) {x y : Operand} {b off : Nat} {xs : List AV} {v : AV} {t T : TypeId} {ps : String} {es : Array Edge} (hx : aeval f x = some (.ref b off)) (hy : aeval f y = some v) (hi : ae[i]? = some (.row b xs)) (hs : off < xs.length) (hok : v.cellOK = true) (hz : v.size = 1)
  (ht : tkind C.P t = some (v.isSt, v.size)) (hk : ∀ u, AX C ds ks ops af aq n (rem.erase q) (vs.set q u) (ae.set i (.row b (xs.set off v)))) : AXO C ds ks ops af aq n rem vs ae q ⟨none, .store t x y, T, ps, es, none⟩ f :=
 ⟨_, AOp.store_row hx hy hi hs hok hz ht, by rintro v h ⟨_, rfl⟩; exact hk v, by rintro _ _ ⟨⟨_, e⟩, _⟩; cases e⟩
end
section
variable {C : Cx} {ds : List Deferred} {ks : List K} {af : AF} {ah : AH}
theorem AW.ex {ops : Array Oper} {ks0 : List K} (id : Nat) (m : List Bool) (E : List Nat) (h : AQE C.P ops (uns m ah) (sel m ah ++ uns m ah) E 0 ops.toList af (fun vs => AX C ds ks ops af (uns m ah) E.length E vs (sel m ah))) (hc : ctlN 99 af ks0 = .c (.region id ops true) :: ks := by exact rfl) (hm : C.P.follows .mixedOrders = true := by exact rfl) (hd : drawOK ops = true := by kernel_rfl) (hn : ops.toList.all (fun o => okDst o.dst C.n) = true := by kernel_rfl) (hqo : quietOK ops E = true := by kernel_rfl) (hE : okE E ops.size = true := by kernel_rfl) : AW C ds ks0 af ah := AW.ctl 99 ks0 (by rw [hc]; exact AW.explore m E hm hd hn hqo hE h)
end
section
variable {P : Program} {ops : Array Oper} {aq aa : AH} {E : List Nat} {n : Nat} {af af' : AF} {K : List AV → Prop} {rest : List Oper} {o : Oper}
theorem AQE.p {v : AV} {d : Nat} (hkp : keep (oslots ops o) af = af') (h : AOp P o af' aq (D v aq)) (k : AQE P ops aq aa E (n + 1) rest ((d, v) :: af) (fun us => K (v :: us))) (hg : o.guard = none := by exact rfl) (hd : o.dst = some d := by exact rfl) : AQE P ops aq aa E n (o :: rest) af K := AQE.op hkp h hg hd k
theorem AQE.pe {v : AV} {d : Nat} (hkp : keep (oslots ops o) af = af') (h : AOp P o af' aa (D v aa)) (k : AQE P ops aq aa E (n + 1) rest ((d, v) :: af) (fun us => K (v :: us))) (hg : o.guard = none := by exact rfl) (hd : o.dst = some d := by exact rfl) (he : earlyB ops E n = true := by kernel_rfl) : AQE P ops aq aa E n (o :: rest) af K := AQE.early he hkp h hg hd k
theorem AQE.e {v : AV} {d : Nat} (k : AQE P ops aq aa E (n + 1) rest ((d, v) :: af) (fun us => K (v :: us))) (hkp : keep (oslots ops o) af = af' := by exact rfl) (h : evalOp af' o.op = some v := by exact rfl) (hg : o.guard = none := by exact rfl) (hd : o.dst = some d := by exact rfl) : AQE P ops aq aa E n (o :: rest) af K := AQE.ev hkp h hg hd k
theorem AQE.gp {v : AV} {d : Nat} (hkp : keep (oslots ops o) af = af') (h : AOp P o af' aq (D v aq)) (k : AQE P ops aq aa E (n + 1) rest ((d, v) :: af) (fun us => K (v :: us))) (hg : gdo ops af' o = some true := by exact rfl) (hd : o.dst = some d := by exact rfl) : AQE P ops aq aa E n (o :: rest) af K := AQE.gop hkp h hg hd k
theorem AQE.ge {v : AV} {d : Nat} (k : AQE P ops aq aa E (n + 1) rest ((d, v) :: af) (fun us => K (v :: us))) (hkp : keep (oslots ops o) af = af' := by exact rfl) (h : evalOp af' o.op = some v := by exact rfl) (hg : gdo ops af' o = some true := by exact rfl) (hd : o.dst = some d := by exact rfl) : AQE P ops aq aa E n (o :: rest) af K := AQE.gop hkp (AOp.ev h) hg hd k
theorem AQE.k {d : Nat} (k : AQE P ops aq aa E (n + 1) rest ((d, .tup []) :: af) (fun us => K (.tup [] :: us))) (hkp : keep (oslots ops o) af = af' := by exact rfl) (hg : gdo ops af' o = some false := by exact rfl) (hd : o.dst = some d := by exact rfl) : AQE P ops aq aa E n (o :: rest) af K := AQE.skip hkp hg hd k
theorem AQE.hl (k : AQE P ops aq aa E (n + 1) rest af' (fun us => K (.any :: us))) (he : memN n E = true := by exact rfl) (hp : put af o.dst .any = af' := by exact rfl) : AQE P ops aq aa E n (o :: rest) af K := AQE.hole he hp k
end
section
variable {P : Program} {af : AF} {ah : AH} {d : Option Tmp} {T : TypeId} {ps : String} {es : Array Edge} {gd : Option (Nat × Bool)}
end
section
variable {C : Cx} {ds : List Deferred} {ks : List K} {af : AF} {ah : AH}
theorem AW.recast (i : Nat) {b : Nat} {c c' : AV} (hi : ah[i]? = some (.box b c)) (hc : ∀ S w cs, RelC S w c cs → RelC S w c' cs) (k : AW C ds ks af (ah.set i (.box b c'))) : AW C ds ks af ah := .mk fun a w g => by
 have hs := g.st.update (w' := w) (x' := .box b c') hi (Ext.refl _ _) (fun b' h => .inl h) (fun b' o _ h => h) (fun b' h => g.st.lt _ (List.mem_of_getElem? hi) b' h) (fun m => by
  obtain ⟨cs, t, h1, h2⟩ := g.st.rel _ (List.mem_of_getElem? hi)
  exact ⟨cs, t, h1, hc _ _ _ (RelC.mv m _ _ h2)⟩)
 have hreg : ∀ b' o, reg (ah.set i (.box b c')) b' o → reg ah b' o := by
  rintro b' o ⟨y, hy, hr⟩
  rcases List.mem_or_eq_of_mem_set hy with hy | rfl
  ·exact ⟨y, hy, hr⟩
  ·exact ⟨_, List.mem_of_getElem? hi, hr⟩
 exact k.out a w ⟨g.size, g.defers, hs.1, g.ext, fun b' o hb h => g.old b' o hb (hreg b' o h), AFRel.mv (Mv.same w fun b' o h => h.imp id (hreg b' o)) g.fr⟩
theorem nil_slt (S : Rg) (w : World) (cs : List Value) (h : RelC S w nilS cs) : RelC S w (.slt [] none 0) cs := by
 simp only [nilS, RelC, Value.cells] at h
 simp only [RelC]
 exact ⟨by simpa using h, by simp, by simp [maxLen], by simp⟩
theorem slt_sl {xs : List AV} {b : Option Nat} {n : Nat} (S : Rg) (w : World) (cs : List Value) (h : RelC S w (.slt xs b n) cs) : RelC S w (.sl xs) cs := by
 simp only [RelC] at h ⊢
 obtain ⟨h1, h2, h3, h4⟩ := h
 exact ⟨_, n, h1, h2, h3, fun hne => by obtain ⟨b', sz, rfl, hr⟩ := h4 hne; exact ⟨b', 0, sz, rfl, hr⟩⟩
end
section
variable {P : AV → Prop} {a b : List AV} {y : AV} {n : Nat}
theorem P_nil : ∀ x ∈ ([] : List AV), P x := fun x h => by cases h
theorem P_app (h : ∀ x ∈ a, P x) (k : ∀ x ∈ b, P x) : ∀ x ∈ a ++ b, P x := fun x hx => (List.mem_append.1 hx).elim (h x) (k x)
theorem P_take (h : ∀ x ∈ a, P x) : ∀ x ∈ a.take n, P x := fun x hx => h x (List.mem_of_mem_take hx)
theorem P_drop (h : ∀ x ∈ a, P x) : ∀ x ∈ a.drop n, P x := fun x hx => h x (List.mem_of_mem_drop hx)
theorem P_one (h : P y) : ∀ x ∈ [y], P x := fun x hx => List.mem_singleton.1 hx ▸ h
theorem P_map {α : Type} {g : α → AV} {l : List α} (h : ∀ z, P (g z)) : ∀ x ∈ l.map g, P x := fun x hx => by obtain ⟨z, _, rfl⟩ := List.mem_map.1 hx; exact h z
theorem ok_all : ∀ {a : List AV}, (∀ x ∈ a, x.cellOK = true) → AV.cellsOK a = true
 | [], _ => rfl
 | x :: a, h => by rw [AV.cellsOK, h x (by simp), ok_all fun y hy => h y (by simp [hy])]; rfl
end
end Go.SX
