/- The library of abstract walks, part 1. -/
import Derived.WalkKit
import Derived.Orders
import Derived.OrdersIn
import Derived.TacticsIn
import Derived.RangeFuncIn
namespace Go.SX
open Go.RowKit
set_option linter.unusedVariables false
set_option linter.unusedSimpArgs false
abbrev Rg := Nat → Nat → Prop
inductive AV where
 | any
 | int (k : IntKind) (n : Int)
 | bool (b : Bool)
 | str (s : ByteArray)
 | st (fs : List AV)
 | sl (xs : List AV)
 | slt (xs : List AV) (b : Option Nat) (cap : Nat)
 | osl (b n c : Nat)
 | at (d : AV)
 | ref (b off : Nat)
 | map (b : Nat)
 | fn (f : FuncId) (cs : List AV)
 | yl (l : Nat) (tm : List Value) (ix : List Nat) (vs : List AV)
 | tup (vs : List AV)
 | val (v : Value)
 deriving Inhabited
def Shape : AV → Value → Prop
 | .any, _ => True
 | .st _, v => ∃ cs, v = .agg cs
 | .val u, v => v = u
 | _, v => ∀ cs, v ≠ .agg cs
mutual
def RelC (S : Rg) (w : World) : AV → List Value → Prop
 | .any, cs => ∃ v, cs = [v]
 | .int k n, cs => cs = [.int k n]
 | .bool b, cs => cs = [.bool b]
 | .str s, cs => cs = [.string s]
 | .st fs, cs => RelCs S w fs cs
 | .sl xs, cs => ∃ A c, cs = [.slice A xs.length c] ∧ xs.length ≤ c ∧ c ≤ maxLen ∧ (xs ≠ [] → ∃ b o sz, A = some ⟨b, o, none⟩ ∧ RelRow S w xs sz b o)
 | .slt xs b cap, cs => cs = [.slice (b.map fun b => ⟨b, 0, none⟩) xs.length cap] ∧ xs.length ≤ cap ∧ cap ≤ maxLen ∧ (xs ≠ [] → ∃ b' sz, b = some b' ∧ RelRow S w xs sz b' 0)
 | .osl b n c, cs => cs = [.slice (some ⟨b, 0, none⟩) n c] ∧ n ≤ c ∧ c ≤ maxLen
 | .at d, cs => ∃ b o ds, cs = [.pointer (some ⟨b, o, none⟩)] ∧ RelC S w d ds ∧ ∀ j u, ds[j]? = some u → ¬ S b (o + j) ∧ w.cell? ⟨b, o + j, none⟩ = some u
 | .ref b o, cs => cs = [.pointer (some ⟨b, o, none⟩)]
 | .map b, cs => cs = [.map (some b)]
 | .fn f caps, cs => ∃ vs, cs = [.func (.func f) #[] (List.toArray vs)] ∧ RelVs S w caps vs
 | .yl l tm ix vs, cs => cs = [.func (.yield l) #[] #[]] ∧ RelVs S w vs (ix.map fun i => tm.getD i undef)
 | .tup vs, cs => ∃ us, cs = [.tuple (List.toArray us)] ∧ RelVs S w vs us
 | .val v, cs => cs = v.cells.toList
def RelCs (S : Rg) (w : World) : List AV → List Value → Prop
 | [], cs => cs = []
 | x :: xs, cs => ∃ c1 c2, cs = c1 ++ c2 ∧ RelC S w x c1 ∧ RelCs S w xs c2
def RelVs (S : Rg) (w : World) : List AV → List Value → Prop
 | [], us => us = []
 | x :: xs, us => ∃ u us', us = u :: us' ∧ RelC S w x u.cells.toList ∧ Shape x u ∧ RelVs S w xs us'
def RelRow (S : Rg) (w : World) : List AV → Nat → Nat → Nat → Prop
 | [], _, _, _ => True
 | x :: xs, sz, b, o => (∃ cs, List.length cs = sz ∧ RelC S w x cs ∧ ∀ j u, cs[j]? = some u → ¬ S b (o + j) ∧ w.cell? ⟨b, o + j, none⟩ = some u) ∧ RelRow S w xs sz b (o + sz)
end
def Rel (S : Rg) (w : World) (x : AV) (v : Value) : Prop := RelC S w x v.cells.toList ∧ Shape x v
def Mv (S S' : Rg) (w w' : World) : Prop := ∀ a v, w.cell? a = some v → ¬ S a.block a.off → w'.cell? a = some v ∧ ¬ S' a.block a.off
section
variable {S S' : Rg} {w w' : World}
mutual
theorem RelC.mv (m : Mv S S' w w') : ∀ (x : AV) (cs : List Value), RelC S w x cs → RelC S' w' x cs
 | .any, _, h => by simpa [RelC] using h
 | .int _ _, _, h => by simpa [RelC] using h
 | .bool _, _, h => by simpa [RelC] using h
 | .str _, _, h => by simpa [RelC] using h
 | .st fs, cs, h => by simp only [RelC] at h ⊢; exact RelCs.mv m fs cs h
 | .sl xs, cs, h => by
  simp only [RelC] at h ⊢
  obtain ⟨A, c, h1, h2, h3, h4⟩ := h
  refine ⟨A, c, h1, h2, h3, fun hx => ?_⟩
  obtain ⟨b, o, sz, e, hr⟩ := h4 hx
  exact ⟨b, o, sz, e, RelRow.mv m xs sz b o hr⟩
 | .slt xs b cap, cs, h => by
  simp only [RelC] at h ⊢
  obtain ⟨h1, h2, h3, h4⟩ := h
  refine ⟨h1, h2, h3, fun hx => ?_⟩
  obtain ⟨b', sz, e, hr⟩ := h4 hx
  exact ⟨b', sz, e, RelRow.mv m xs sz b' 0 hr⟩
 | .osl _ _ _, _, h => by simpa [RelC] using h
 | .at d, cs, h => by
  simp only [RelC] at h ⊢
  obtain ⟨b, o, ds, h1, h2, h3⟩ := h
  exact ⟨b, o, ds, h1, RelC.mv m d ds h2, fun j u hj => (m ⟨b, o + j, none⟩ u (h3 j u hj).2 (h3 j u hj).1).symm⟩
 | .ref _ _, _, h => by simpa [RelC] using h
 | .map _, _, h => by simpa [RelC] using h
 | .fn _ caps, cs, h => by
  simp only [RelC] at h ⊢
  obtain ⟨vs, h1, h2⟩ := h
  exact ⟨vs, h1, RelVs.mv m caps vs h2⟩
 | .yl l tm ix vs, cs, h => by
  simp only [RelC] at h ⊢
  exact ⟨h.1, RelVs.mv m vs _ h.2⟩
 | .tup vs, cs, h => by
  simp only [RelC] at h ⊢
  obtain ⟨us, h1, h2⟩ := h
  exact ⟨us, h1, RelVs.mv m vs us h2⟩
 | .val _, _, h => by simpa [RelC] using h
theorem RelCs.mv (m : Mv S S' w w') : ∀ (xs : List AV) (cs : List Value), RelCs S w xs cs → RelCs S' w' xs cs
 | [], _, h => by simpa [RelCs] using h
 | x :: xs, cs, h => by
  simp only [RelCs] at h ⊢
  obtain ⟨c1, c2, h1, h2, h3⟩ := h
  exact ⟨c1, c2, h1, RelC.mv m x c1 h2, RelCs.mv m xs c2 h3⟩
theorem RelVs.mv (m : Mv S S' w w') : ∀ (xs : List AV) (us : List Value), RelVs S w xs us → RelVs S' w' xs us
 | [], _, h => by simpa [RelVs] using h
 | x :: xs, us, h => by
  simp only [RelVs] at h ⊢
  obtain ⟨u, us', h1, h2, h3, h4⟩ := h
  exact ⟨u, us', h1, RelC.mv m x _ h2, h3, RelVs.mv m xs us' h4⟩
theorem RelRow.mv (m : Mv S S' w w') : ∀ (xs : List AV) (sz b o : Nat), RelRow S w xs sz b o → RelRow S' w' xs sz b o
 | [], _, _, _, _ => by simp [RelRow]
 | x :: xs, sz, b, o, h => by
  simp only [RelRow] at h ⊢
  obtain ⟨⟨cs, h1, h2, h3⟩, h4⟩ := h
  exact ⟨⟨cs, h1, RelC.mv m x cs h2, fun j u hj => (m ⟨b, o + j, none⟩ u (h3 j u hj).2 (h3 j u hj).1).symm⟩, RelRow.mv m xs sz b (o + sz) h4⟩
end
theorem Rel.mv (m : Mv S S' w w') {x : AV} {v : Value} (h : Rel S w x v) : Rel S' w' x v := ⟨RelC.mv m x _ h.1, h.2⟩
end
structure MG where
 bs : List Nat
 clk : Nat
 deriving Inhabited
inductive Own where
 | box (b : Nat) (c : AV)
 | row (b : Nat) (xs : List AV)
 | map (b : Nat) (kv : List (AV × AV)) (g : MG)
 | iter (b mb clk : Nat) (seen : List Nat)
 | siter (b : Nat) (s : ByteArray) (pos : Nat)
 | tail (b : Option Nat) (n cap sz : Nat)
 | trow (b : Nat) (t : TypeId) (xs : List AV)
 | niter (b : Nat)
 | obj (b : Nat) (o : Obj)
 deriving Inhabited
abbrev AH := List Own
def Own.blk : Own → Option Nat
 | .box b _ => some b
 | .row b _ => some b
 | .map b _ _ => some b
 | .iter b _ _ _ => some b
 | .siter b _ _ => some b
 | .tail b _ _ _ => b
 | .trow b _ _ => some b
 | .niter b => some b
 | .obj b _ => some b
def Own.reg : Own → Rg
 | .box b _, b', _ => b' = b
 | .row b _, b', _ => b' = b
 | .map b _ _, b', _ => b' = b
 | .iter b _ _ _, b', _ => b' = b
 | .siter b _ _, b', _ => b' = b
 | .tail b n _ sz, b', o => some b' = b ∧ n * sz ≤ o
 | .trow b _ _, b', _ => b' = b
 | .niter b, b', _ => b' = b
 | .obj b _, b', _ => b' = b
def reg (ah : AH) : Rg := fun b o => ∃ x ∈ ah, x.reg b o
def OwnRel (S : Rg) (w : World) : Own → Prop
 | .box b c => ∃ cs t, w.heap[b]? = some (.cells cs t (0, 0)) ∧ RelC S w c cs.toList
 | .row b xs => ∃ cs t, w.heap[b]? = some (.cells cs t (0, 0)) ∧ ∀ (i : Nat) x, xs[i]? = some x → ∃ v, cs[i]? = some v ∧ RelC S w x [v]
 | .map b kv g => ∃ es : Array MapEntry, w.heap[b]? = some (.map es g.clk) ∧ es.toList.map (·.born) = g.bs ∧ es.size = kv.length ∧
   (∀ (i : Nat) k v, kv[i]? = some (k, v) → ∃ e : MapEntry, es[i]? = some e ∧ Rel S w k e.key ∧ Rel S w v e.val) ∧ (∀ n ∈ g.bs, n < g.clk) ∧ g.bs.Nodup
 | .iter b mb clk seen => w.heap[b]? = some (.mapIter (some mb) clk seen.toArray clk)
 | .siter b s p => w.heap[b]? = some (.stringIter s p)
 | .tail none n cap _ => n = 0 ∧ cap = 0
 | .tail (some b) n cap sz => n ≤ cap ∧ ∃ cs t, w.heap[b]? = some (.cells cs t (0, 0)) ∧ cap * sz ≤ cs.size
 | .trow b t xs => ∃ cs, w.heap[b]? = some (.cells cs t (0, 0)) ∧ cs.size = xs.length ∧ ∀ (i : Nat) x, xs[i]? = some x → ∃ v, cs[i]? = some v ∧ RelC S w x [v]
 | .niter b => w.heap[b]? = some (.mapIter none 0 #[] 0)
 | .obj b o => w.heap[b]? = some o
structure Ext (R : Rg) (w w' : World) : Prop where
 os : w'.os = w.os
 tape : w'.tape = w.tape
 output : w'.output = w.output
 size : w.heap.size ≤ w'.heap.size
 blk : ∀ b, b < w.heap.size → (∀ o, ¬ R b o) → w'.heap[b]? = w.heap[b]?
 cell : ∀ a v, w.cell? a = some v → ¬ R a.block a.off → w'.cell? a = some v
theorem Ext.refl (R : Rg) (w : World) : Ext R w w := ⟨rfl, rfl, rfl, Nat.le_refl _, fun _ _ _ => rfl, fun _ _ h _ => h⟩
theorem cell_lt {w : World} {a : Addr} {v : Value} (h : w.cell? a = some v) : a.block < w.heap.size := World.block_lt_of_cell? w a h
theorem Ext.trans {R R' : Rg} {a b c : World} (h : Ext R a b) (k : Ext R' b c) (hr : ∀ b' o, b' < a.heap.size → R' b' o → R b' o) : Ext R a c where
 os := k.os.trans h.os
 tape := k.tape.trans h.tape
 output := k.output.trans h.output
 size := Nat.le_trans h.size k.size
 blk := fun b' hb hn => (k.blk b' (Nat.lt_of_lt_of_le hb h.size) (fun o ho => hn o (hr _ _ hb ho))).trans (h.blk b' hb hn)
 cell := fun x v hx hn => k.cell x v (h.cell x v hx hn) (fun ho => hn (hr _ _ (cell_lt hx) ho))
theorem Ext.mono {R R' : Rg} {a b : World} (h : Ext R a b) (hr : ∀ b' o, R b' o → R' b' o) : Ext R' a b :=
 ⟨h.os, h.tape, h.output, h.size, fun b' hb hn => h.blk b' hb (fun o ho => hn o (hr _ _ ho)), fun x v hx hn => h.cell x v hx (fun ho => hn (hr _ _ ho))⟩
theorem Ext.below {a b : World} (h : Ext (fun _ _ => False) a b) : Below a.heap.size a b :=
 ⟨h.os, h.tape, h.output, h.size, fun k hk => h.blk k hk (fun _ h => h)⟩
def Sof (Fr : Rg) (ah : AH) : Rg := fun b o => Fr b o ∨ reg ah b o
structure St (Fr : Rg) (ah : AH) (w : World) : Prop where
 nodup : (ah.filterMap Own.blk).Nodup
 lt : ∀ o ∈ ah, ∀ b, o.blk = some b → b < w.heap.size
 fr : ∀ o ∈ ah, ∀ b, o.blk = some b → ∀ off, ¬ Fr b off
 frlt : ∀ b o, Fr b o → b < w.heap.size
 rel : ∀ o ∈ ah, OwnRel (Sof Fr ah) w o
theorem reg_blk {x : Own} {b o : Nat} (h : x.reg b o) : x.blk = some b := by
 cases x <;> simp_all [Own.reg, Own.blk]
theorem Mv.of_ext {Fr : Rg} {ah ah' : AH} {w w' : World} {R : Rg} (h : Ext R w w') (hR : ∀ b o, R b o → reg ah b o) (hn : ∀ b o, b < w.heap.size → reg ah' b o → reg ah b o) :
  Mv (Sof Fr ah) (Sof Fr ah') w w' := by
 intro a v hc hs
 refine ⟨h.cell a v hc (fun hr => hs (.inr (hR _ _ hr))), fun h' => hs ?_⟩
 rcases h' with h' | h'
 ·exact .inl h'
 ·exact .inr (hn _ _ (cell_lt hc) h')
theorem OwnRel.mv {S S' : Rg} {w w' : World} (m : Mv S S' w w') {x : Own} (hb : ∀ b, x.blk = some b → w'.heap[b]? = w.heap[b]?) (h : OwnRel S w x) : OwnRel S' w' x := by
 cases x with
 | box b c =>
  obtain ⟨cs, t, h1, h2⟩ := h
  exact ⟨cs, t, (hb b rfl).trans h1, RelC.mv m c _ h2⟩
 | row b xs =>
  obtain ⟨cs, t, h1, h2⟩ := h
  refine ⟨cs, t, (hb b rfl).trans h1, fun i x hx => ?_⟩
  obtain ⟨v, hv, hr⟩ := h2 i x hx
  exact ⟨v, hv, RelC.mv m x _ hr⟩
 | map b kv g =>
  obtain ⟨es, h1, h2, h3, h4, h5⟩ := h
  refine ⟨es, (hb b rfl).trans h1, h2, h3, fun i k v hx => ?_, h5⟩
  obtain ⟨e, he, hk, hv⟩ := h4 i k v hx
  exact ⟨e, he, hk.mv m, hv.mv m⟩
 | iter b mb clk seen => exact (hb b rfl).trans h
 | siter b s p => exact (hb b rfl).trans h
 | niter b => exact (hb b rfl).trans h
 | obj b o => exact (hb b rfl).trans h
 | tail b n cap sz =>
  cases b with
  | none => simpa [OwnRel] using h
  | some b =>
   obtain ⟨h0, cs, t, h1, h2⟩ := h
   exact ⟨h0, cs, t, (hb b rfl).trans h1, h2⟩
 | trow b t xs =>
  obtain ⟨cs, h1, h0, h2⟩ := h
  refine ⟨cs, (hb b rfl).trans h1, h0, fun i x hx => ?_⟩
  obtain ⟨v, hv, hr⟩ := h2 i x hx
  exact ⟨v, hv, RelC.mv m x _ hr⟩
inductive AEnd where
 | ret (v : AV)
 | pan (v : AV)
def EndRel (S : Rg) (w : World) : AEnd → Ending → Prop
 | .ret x, e => ∃ v, e = .returned v ∧ Rel S w x v
 | .pan x, e => ∃ v, e = .panicked [{ v, recovered := false }] ∧ Rel S w x v
def EndR (Fr R0 : Rg) (w0 : World) (Φ : AEnd → AH → Prop) (e : Ending) (w : World) : Prop :=
 ∃ x ah, Φ x ah ∧ EndRel (Sof Fr ah) w x e ∧ St Fr ah w ∧ Ext R0 w0 w ∧ ∀ b o, b < w0.heap.size → reg ah b o → R0 b o
theorem EndR.mono {Fr R0 : Rg} {w0 : World} {Φ Ψ : AEnd → AH → Prop} (h : ∀ x ah, Φ x ah → Ψ x ah) {e : Ending} {w : World} (k : EndR Fr R0 w0 Φ e w) : EndR Fr R0 w0 Ψ e w :=
 let ⟨x, ah, h1, h2⟩ := k
 ⟨x, ah, h _ _ h1, h2⟩
def Callable (P : Program) (f : FuncId) : Prop := ∃ fn, P.funcs[f]? = some fn ∧ (fn.name == "runtime.NumGoroutine") = false ∧ fn.body.isNone = false
structure Tri (P : Program) (f : FuncId) (args : List AV) (ah : AH) (Φ : AEnd → AH → Prop) : Prop where
 call : Callable P f
 out : ∀ Fr w vs, St Fr ah w → RelVs (Sof Fr ah) w args vs → Calls P f vs.toArray w (EndR Fr (reg ah) w Φ)
def D (v : AV) (ah : AH) : AEnd → AH → Prop := fun x h => x = .ret v ∧ h = ah
theorem Tri.mono {P : Program} {f : FuncId} {args : List AV} {ah : AH} {Φ Ψ : AEnd → AH → Prop} (h : Tri P f args ah Φ) (k : ∀ x ah', Φ x ah' → Ψ x ah') : Tri P f args ah Ψ :=
 ⟨h.1, fun Fr w vs h1 h2 => (h.2 Fr w vs h1 h2).mono fun _ _ h3 => h3.mono k⟩
abbrev AF := List (Nat × AV)
def get : AF → Nat → Option AV
 | [], _ => none
 | (j, v) :: r, i => bif Nat.beq j i then some v else get r i
def put (af : AF) (d : Option Tmp) (v : AV) : AF := match d with | some d => (d, v) :: af | none => af
def okDst (d : Option Tmp) (n : Nat) : Bool := match d with | some d => Nat.blt d n | none => true
def ofConst : Value → AV
 | .int k n => .int k n
 | .bool b => .bool b
 | .string s => .str s
 | .slice none 0 0 => .sl []
 | v => .val v
def aeval (af : AF) : Operand → Option AV
 | .tmp t => get af t
 | .const v => some (ofConst v)
 | .func f => some (.fn f [])
 | .global _ => none
def AFRel (S : Rg) (w : World) (af : AF) (a : Act) : Prop := ∀ i v, get af i = some v → Rel S w v (a.tmps.getD i undef)
theorem beq_false {j i : Nat} (h : j ≠ i) : Nat.beq j i = false := by
 rw [Bool.eq_false_iff]
 exact fun h2 => h (Nat.eq_of_beq_eq_true h2)
theorem get_cons (j : Nat) (v : AV) (r : AF) (i : Nat) : get ((j, v) :: r) i = if j = i then some v else get r i := by
 simp only [get]
 by_cases h : j = i
 ·subst h; simp
 ·have : Nat.beq j i = false := beq_false h
  simp [this, h]
theorem rel_const (S : Rg) (w : World) (v : Value) : Rel S w (ofConst v) v := by
 unfold ofConst
 split
 ·exact ⟨by simp [RelC, Value.cells], by simp [Shape]⟩
 ·exact ⟨by simp [RelC, Value.cells], by simp [Shape]⟩
 ·exact ⟨by simp [RelC, Value.cells], by simp [Shape]⟩
 ·exact ⟨by simp only [RelC, Value.cells]; exact ⟨none, 0, rfl, by simp, by simp [maxLen], by simp⟩, by simp [Shape]⟩
 ·exact ⟨by simp [RelC], by simp [Shape]⟩
theorem aeval_rel {S : Rg} {w : World} {af : AF} {a : Act} (h : AFRel S w af a) {x : Operand} {v : AV} (hx : aeval af x = some v) : Rel S w v (a.eval x) := by
 cases x with
 | tmp t => exact h t v hx
 | const u => simp only [aeval, Option.some.injEq] at hx; subst hx; exact rel_const S w u
 | func f => simp only [aeval, Option.some.injEq] at hx; subst hx; exact ⟨by simp [RelC, RelVs, Act.eval, Value.cells], by simp [Shape, Act.eval]⟩
 | global g => simp [aeval] at hx
theorem AFRel.mv {S S' : Rg} {w w' : World} (m : Mv S S' w w') {af : AF} {a : Act} (h : AFRel S w af a) : AFRel S' w' af a := fun i v hi => (h i v hi).mv m
theorem AFRel.put {S : Rg} {w : World} {af : AF} {a : Act} {d : Option Tmp} {n : Nat} {v : AV} {u : Value} (h : AFRel S w af a) (hs : a.tmps.size = n) (hd : okDst d n = true) (hv : Rel S w v u) :
  AFRel S w (SX.put af d v) (a.put d u) := by
 cases d with
 | none => exact h
 | some d =>
  have hlt : d < a.tmps.size := by rw [hs]; simpa [okDst] using hd
  intro i x hi
  simp only [SX.put, get_cons] at hi
  simp only [Act.put]
  by_cases e : d = i
  ·subst e
   rw [if_pos rfl] at hi
   obtain rfl := Option.some.inj hi
   simpa [Array.getD_eq_getD_getElem?, Array.getElem?_setIfInBounds, hlt] using hv
  ·rw [if_neg e] at hi
   have := h i x hi
   simpa [Array.getD_eq_getD_getElem?, Array.getElem?_setIfInBounds, e] using this
inductive K where
 | c (x : Code)
 | blk (id : Nat)
 | back (J : Act → World → Prop)
abbrev fz (ro : Option Nat) : Fence := { Fence.wide with round := ro }
theorem semAt_run {P : Program} {ro : Option Nat} {ρ : Operand → Value} {o : Oper} {w : World} (h : ∀ d w', (execOp ρ o).run P w ≠ .ok (.defer d) w') : (o.semAt ro ρ).run P w = (execOp ρ o).run P w := by
 cases ro with
 | none => rfl
 | some l =>
  cases ho : o.op with
  | defer c =>
   unfold Oper.semAt
   simp only [ho]
   have e : execOp ρ o = (do let d ← resolve ρ c o.type; Pure.pure (.defer d)) := by unfold execOp; rw [ho]
   rw [e] at h ⊢
   rw [Sem.run_bind] at h ⊢
   rw [Sem.run_bind]
   generalize (resolve ρ c o.type).run P w = r at h ⊢
   cases r with
   | ok d w1 => exact absurd rfl (h d w1)
   | halt x w1 => rfl
  | _ => unfold Oper.semAt; simp only [ho]
theorem callsFz {P : Program} {ro : Option Nat} {n : Nat} {f : FuncId} {args : Array Value} {w : World} {N : Ending → World → Prop} (h : Calls P f args w N) : CallsIn (fz ro) n P f args w N := callsIn_wide.2 h
theorem roundFz {P : Program} {ro : Option Nat} {n : Nat} {l : Nat} {f : FuncId} {tmps : Array Value} {x y : Code} {w : World} {N : Ending → World → Prop} (h : RoundIn Fence.wide n P l f tmps x y w N) : RoundIn (fz ro) n P l f tmps x y w N := h
theorem fz_depth {ro : Option Nat} {p : Prop} : (fz ro).depth.isSome = true → p := fun h => by cases h
def hnd (P : Program) (ro : Option Nat) (R : Exit → Act → World → Prop) : List K → Exit → Act → World → Prop
 | [], e => R e
 | .c x :: ks, .normal => x.wpIn (fz ro) 0 P (hnd P ro R ks)
 | .c _ :: ks, e => hnd P ro R ks e
 | .blk _ :: ks, .normal => hnd P ro R ks .normal
 | .blk id :: ks, .exit id' => if id' = id then hnd P ro R ks .normal else hnd P ro R ks (.exit id')
 | .blk _ :: ks, e => hnd P ro R ks e
 | .back J :: _, .normal => J
 | .back _ :: ks, e => hnd P ro R ks e
def popTo (id : Nat) : List K → Option (List K)
 | [] => none
 | .blk id' :: ks => bif Nat.beq id id' then some ks else popTo id ks
 | _ :: ks => popTo id ks
section
variable {P : Program} {ro : Option Nat} {R : Exit → Act → World → Prop}
theorem hnd_exit {id : Nat} : ∀ {ks ks' : List K}, popTo id ks = some ks' → hnd P ro R ks (.exit id) = hnd P ro R ks' .normal
 | .c _ :: ks, ks', h => by simp only [popTo] at h; simp only [hnd]; exact hnd_exit h
 | .back _ :: ks, ks', h => by simp only [popTo] at h; simp only [hnd]; exact hnd_exit h
 | .blk id' :: ks, ks', h => by
  simp only [popTo] at h
  by_cases e : id = id'
  ·subst e
   have hb : Nat.beq id id = true := by simp
   rw [hb] at h
   simp only [cond_true, Option.some.injEq] at h
   subst h
   funext a w
   simp [hnd]
  ·have hb : Nat.beq id id' = false := beq_false e
   rw [hb] at h
   simp only [cond_false] at h
   funext a w
   simp only [hnd, e, if_false]
   rw [hnd_exit h]
theorem hnd_ret : ∀ ks : List K, hnd P ro R ks .ret = R .ret
 | [] => rfl
 | .c _ :: ks => by simp only [hnd]; exact hnd_ret ks
 | .blk _ :: ks => by simp only [hnd]; exact hnd_ret ks
 | .back _ :: ks => by simp only [hnd]; exact hnd_ret ks
theorem hnd_panic (ch : List PanicEntry) : ∀ ks : List K, hnd P ro R ks (.panic ch) = R (.panic ch)
 | [] => rfl
 | .c _ :: ks => by simp only [hnd]; exact hnd_panic ch ks
 | .blk _ :: ks => by simp only [hnd]; exact hnd_panic ch ks
 | .back _ :: ks => by simp only [hnd]; exact hnd_panic ch ks
end
structure Cx where
 P : Program
 n : Nat
 Fr : Rg
 R0 : Rg
 w0 : World
 R : Exit → Act → World → Prop
 ro : Option Nat := none
structure Good (C : Cx) (ds : List Deferred) (af : AF) (ah : AH) (a : Act) (w : World) : Prop where
 size : a.tmps.size = C.n
 defers : a.defers = ds
 st : St C.Fr ah w
 ext : Ext C.R0 C.w0 w
 old : ∀ b o, b < C.w0.heap.size → reg ah b o → C.R0 b o
 fr : AFRel (Sof C.Fr ah) w af a
structure AW (C : Cx) (ds : List Deferred) (ks : List K) (af : AF) (ah : AH) : Prop where
 out : ∀ a w, Good C ds af ah a w → hnd C.P C.ro C.R ks .normal a w
structure AL (C : Cx) (ds : List Deferred) (ks : List K) (ops : Array Oper) (rest : List Oper) (af : AF) (ah : AH) : Prop where
 out : ∀ a w, Good C ds af ah a w → wpListIn (fz C.ro) 0 C.P ops (hnd C.P C.ro C.R ks) rest a w
structure APan (C : Cx) (ds : List Deferred) (v : AV) (ah : AH) : Prop where
 out : ∀ a w u, Good C ds [] ah a w → Rel (Sof C.Fr ah) w v u → C.R (.panic [{ v := u, recovered := false }]) a w
def Out (P : Program) (o : Oper) (N : Ending → World → Prop) : Result Next → Prop
 | .ok (.value v) w' => N (.returned v) w'
 | .ok .skip w' => N (.returned undef) w'
 | .ok (.enter f args) w' => Calls P f args w' N
 | .ok (.round l f tmps x y) w' => (∃ z zs ts, o.op = .call ⟨.value (.tmp z), zs, ts⟩) ∧ RoundIn Fence.wide 0 P l f tmps x y w' N
 | .halt (.panic v) w' => N (.panicked [{ v, recovered := false }]) w'
 | _ => False
structure AOp (P : Program) (o : Oper) (af : AF) (ah : AH) (Φ : AEnd → AH → Prop) : Prop where
 out : ∀ Fr a w, St Fr ah w → AFRel (Sof Fr ah) w af a → Out P o (EndR Fr (reg ah) w Φ) ((execOp a.eval o).run P w)
section
variable {C : Cx} {ds : List Deferred} {ks : List K} {af : AF} {ah : AH}
theorem AW.weaken {af' : AF} (h : AW C ds ks af' ah) (hf : ∀ i v, get af' i = some v → get af i = some v) : AW C ds ks af ah :=
 ⟨fun a w g => h.out a w { g with fr := fun i v hi => g.fr i v (hf i v hi) }⟩
theorem AW.seq {x y : Code} (h : AW C ds (.c x :: .c y :: ks) af ah) : AW C ds (.c (.seq x y) :: ks) af ah := .mk fun a w g => by
 have := h.out a w g
 simp only [hnd] at this ⊢
 refine wpIn_seq (Code.wpIn_mono (fun e a' w' q => ?_) this)
 cases e <;> simpa [hnd, Exit.then] using q
theorem AW.skip (h : AW C ds ks af ah) : AW C ds (.c .skip :: ks) af ah := ⟨fun a w g => by simpa only [hnd] using wpIn_skip (h.out a w g)⟩
theorem AW.label {l : Nat} (h : AW C ds ks af ah) : AW C ds (.c (.label l) :: ks) af ah := ⟨fun a w g => by simpa only [hnd] using wpIn_label (h.out a w g)⟩
theorem AW.block {id : Nat} {x : Code} (h : AW C ds (.c x :: .blk id :: ks) af ah) : AW C ds (.c (.block id x) :: ks) af ah := .mk fun a w g => by
 have := h.out a w g
 simp only [hnd] at this ⊢
 refine wpIn_block (Code.wpIn_mono (fun e a' w' q => ?_) this)
 cases e with
 | exit id' =>
  simp only [hnd] at q
  simp only [Exit.inBlock]
  by_cases e : id' = id
  ·rw [if_pos e] at q ⊢; exact q
  ·rw [if_neg e] at q ⊢; exact q
 | _ => simpa [hnd, Exit.inBlock] using q
theorem AW.endblk {id : Nat} (h : AW C ds ks af ah) : AW C ds (.blk id :: ks) af ah := ⟨fun a w g => by simpa only [hnd] using h.out a w g⟩
theorem AW.exit {id : Nat} {ks' : List K} (hp : popTo id ks = some ks') (h : AW C ds ks' af ah) : AW C ds (.c (.exit id) :: ks) af ah := .mk fun a w g => by
 simp only [hnd]
 refine wpIn_exit ?_
 rw [hnd_exit hp]
 exact h.out a w g
theorem AW.cond {c : Operand} {x y : Code} {b : Bool} (hc : aeval af c = some (.bool b)) (ht : b = true → AW C ds (.c x :: ks) af ah) (hf : b = false → AW C ds (.c y :: ks) af ah) :
  AW C ds (.c (.cond c x y) :: ks) af ah := .mk fun a w g => by
 have hr := (aeval_rel g.fr hc).1
 have hv : a.eval c = .bool b := by
  have hs := (aeval_rel g.fr hc).2
  simp only [RelC] at hr
  revert hr hs
  cases a.eval c <;> simp [Value.cells, Shape]
 simp only [hnd]
 refine wpIn_cond hv ?_
 cases b
 ·exact (hf rfl).out a w g
 ·exact (ht rfl).out a w g
theorem AW.cond_true {c : Operand} {x y : Code} (hc : aeval af c = some (.bool true)) (h : AW C ds (.c x :: ks) af ah) : AW C ds (.c (.cond c x y) :: ks) af ah :=
 AW.cond hc (fun _ => h) (fun e => by cases e)
theorem AW.cond_false {c : Operand} {x y : Code} (hc : aeval af c = some (.bool false)) (h : AW C ds (.c y :: ks) af ah) : AW C ds (.c (.cond c x y) :: ks) af ah :=
 AW.cond hc (fun e => by cases e) (fun _ => h)
theorem AW.ret (h : ∀ a w, Good C ds af ah a w → C.R .ret a w) : AW C ds (.c .ret :: ks) af ah := .mk fun a w g => by
 simp only [hnd]
 refine wpIn_ret ?_
 rw [hnd_ret]
 exact h a w g
theorem AW.done (h : ∀ a w, Good C ds af ah a w → C.R .normal a w) : AW C ds [] af ah := .mk h
theorem AW.region {id : Nat} {ops : Array Oper} (h : AL C ds ks ops ops.toList af ah) : AW C ds (.c (.region id ops false) :: ks) af ah := .mk fun a w g => by
 simp only [hnd]
 exact wpIn_region_list (h.out a w g)
theorem AL.nil {ops : Array Oper} (h : AW C ds ks af ah) : AL C ds ks ops [] af ah := .mk fun a w g => h.out a w g
theorem Good.next {a : Act} {w : World} (g : Good C ds af ah a w) {d : Option Tmp} (hd : okDst d C.n = true) {v : AV} {u : Value} {w' : World} {ah' : AH}
  (hr : Rel (Sof C.Fr ah') w' v u) (hst : St C.Fr ah' w') (hx : Ext (reg ah) w w') (hn : ∀ b o, b < w.heap.size → reg ah' b o → reg ah b o) : Good C ds (put af d v) ah' (a.put d u) w' := by
 have m := Mv.of_ext (Fr := C.Fr) (ah' := ah') hx (fun _ _ h => h) hn
 refine ⟨by cases d <;> simp [Act.put, g.size], by cases d <;> simp [Act.put, g.defers], hst, g.ext.trans hx (fun b o hb hr => g.old b o hb hr), fun b o hb h => ?_, ?_⟩
 ·exact g.old b o hb (hn b o (Nat.lt_of_lt_of_le hb g.ext.size) h)
 ·exact AFRel.put (g.fr.mv m) g.size hd hr
theorem AL.step {ops : Array Oper} {rest : List Oper} {o : Oper} {Φ : AEnd → AH → Prop} (hg : o.guard = none) (hd : okDst o.dst C.n = true) (h : AOp C.P o af ah Φ)
  (hk : ∀ v ah', Φ (.ret v) ah' → AL C ds ks ops rest (put af o.dst v) ah') (hp : ∀ v ah', Φ (.pan v) ah' → APan C ds v ah') : AL C ds ks ops (o :: rest) af ah := .mk fun a w g => by
 refine wpListIn_plain hg fun K hK => ?_
 have hN : ∀ e w', EndR C.Fr (reg ah) w Φ e w' → (∃ u, e = .returned u ∧ K (a.put o.dst u) w') ∨ (∃ u, e = .panicked [{ v := u, recovered := false }] ∧ hnd C.P C.ro C.R ks (.panic [{ v := u, recovered := false }]) a w') := by
  rintro e w' ⟨x, ah', hΦ, he, hst, hx, hn⟩
  cases x with
  | ret v =>
   obtain ⟨u, rfl, hr⟩ := he
   exact .inl ⟨u, rfl, hK _ _ ((hk v ah' hΦ).out _ _ (g.next hd hr hst hx hn))⟩
  | pan v =>
   obtain ⟨u, rfl, hr⟩ := he
   refine .inr ⟨u, rfl, ?_⟩
   rw [hnd_panic]
   have g' := g.next (d := none) rfl hr hst hx hn
   exact (hp v ah' hΦ).out a w' u { g' with fr := fun i v hi => by simp [get] at hi } hr
 have ho := h.out C.Fr a w g.st g.fr
 unfold Oper.wpIn
 refine ⟨fun _ _ => trivial, ?_⟩
 rw [semAt_run (fun d w' e => by rw [e] at ho; exact ho)]
 generalize (execOp a.eval o).run C.P w = r at ho ⊢
 cases r with
 | ok nx w' =>
  cases nx <;> simp only [Out] at ho <;> simp only [Oper.uponIn]
  case value v =>
   rcases hN _ _ ho with ⟨u, e, hu⟩ | ⟨u, e, _⟩
   ·injection e with e; subst e; exact hu
   ·cases e
  case skip =>
   rcases hN _ _ ho with ⟨u, e, hu⟩ | ⟨u, e, _⟩
   ·injection e with e; subst e; exact hu
   ·cases e
  case enter f args =>
   refine ⟨fz_depth, callsFz (ho.mono fun e w'' he => ?_)⟩
   rcases hN _ _ he with ⟨u, rfl, hu⟩ | ⟨u, rfl, hu⟩
   ·exact hu
   ·exact hu
  case round l f tmps x y =>
   refine ⟨fz_depth, roundFz (ho.2.mono fun e w'' he => ?_)⟩
   rcases hN _ _ he with ⟨u, rfl, hu⟩ | ⟨u, rfl, hu⟩
   ·exact hu
   ·exact hu
 | halt x w' =>
  cases x <;> simp only [Out] at ho <;> simp only [Oper.uponIn]
  case panic v =>
   rcases hN _ _ ho with ⟨u, e, hu⟩ | ⟨u, e, hu⟩
   ·cases e
   ·injection e with e; injection e with e; injection e with e; subst e; exact hu
theorem AL.det {ops : Array Oper} {rest : List Oper} {o : Oper} {v : AV} {ah' : AH} {d : Nat} (h : AOp C.P o af ah (D v ah')) (hg : o.guard = none) (hd : o.dst = some d) (hn : Nat.blt d C.n = true)
  (hk : AL C ds ks ops rest ((d, v) :: af) ah') : AL C ds ks ops (o :: rest) af ah :=
 AL.step hg (by rw [hd]; exact hn) h (by rintro v' ah'' ⟨e, rfl⟩; injection e with e; subst e; rw [hd]; exact hk) (by rintro v' ah'' ⟨e, _⟩; cases e)
theorem AL.det0 {ops : Array Oper} {rest : List Oper} {o : Oper} {v : AV} {ah' : AH} (h : AOp C.P o af ah (D v ah')) (hg : o.guard = none) (hd : o.dst = none)
  (hk : AL C ds ks ops rest af ah') : AL C ds ks ops (o :: rest) af ah :=
 AL.step hg (by rw [hd]; rfl) h (by rintro v' ah'' ⟨e, rfl⟩; rw [hd]; exact hk) (by rintro v' ah'' ⟨e, _⟩; cases e)
theorem yielded_of {S : Rg} {w : World} {a : Act} {ops : Array Oper} {g t : Nat} {b : Bool} (hf : AFRel S w af a) (hs : a.tmps.size = C.n) (hg : (ops[g]?).bind (·.dst) = some t) (ht : Nat.blt t C.n = true) (hb : get af t = some (.bool b)) :
  yielded ops a.tmps g = some b := by
 have hlt : t < a.tmps.size := by rw [hs]; simpa using ht
 have hr := hf t _ hb
 unfold yielded
 rw [hg]
 simp only [Option.bind_some]
 have hg' : a.tmps[t]? = some (a.tmps.getD t undef) := by
  rw [Array.getD_eq_getD_getElem?, Array.getElem?_eq_getElem hlt]; rfl
 rw [hg']
 have h1 := hr.1
 have h2 := hr.2
 simp only [RelC] at h1
 revert h1 h2
 cases a.tmps.getD t undef <;> simp [Value.cells, Shape]
theorem rel_undef {S : Rg} {w : World} : Rel S w (.tup []) undef := ⟨by simp only [RelC, undef, Value.cells]; exact ⟨[], rfl, by simp [RelVs]⟩, by simp [Shape, undef]⟩
theorem yielded_undef {S : Rg} {w : World} {a : Act} {ops : Array Oper} {g t : Nat} (hf : AFRel S w af a) (hg : (ops[g]?).bind (·.dst) = some t) (hb : get af t = some (.tup [])) : yielded ops a.tmps g = none := by
 have hr := (hf t _ hb).1
 have hs := (hf t _ hb).2
 unfold yielded
 rw [hg]
 simp only [Option.bind_some]
 simp only [RelC] at hr
 obtain ⟨us, h1, h2⟩ := hr
 simp only [RelVs] at h2
 subst h2
 rw [Array.getD_eq_getD_getElem?] at h1 hs
 cases hh : a.tmps[t]? with
 | none => rfl
 | some v =>
  rw [hh] at h1 hs
  simp only [Option.getD_some] at h1 hs
  cases v <;> simp_all [Value.cells, Shape]
theorem AL.guard_skip {ops : Array Oper} {rest : List Oper} {o : Oper} {g t : Nat} {b : Bool} (hg : o.guard = some (g, b)) (ht : (ops[g]?).bind (·.dst) = some t) (hn : Nat.blt t C.n = true) (hb : get af t = some (.bool (!b)))
  (hd : okDst o.dst C.n = true) (hk : AL C ds ks ops rest (put af o.dst (.tup [])) ah) : AL C ds ks ops (o :: rest) af ah := .mk fun a w gd => by
 refine wpListIn_step fun K hK => ?_
 have hy := yielded_of (C := C) gd.fr gd.size ht hn hb
 have hw : Region.wanted o (yielded ops a.tmps) = false := by simp [Region.wanted, hg, hy]
 rw [if_neg (by simp [hw])]
 refine ⟨fun _ _ => trivial, hK _ _ (hk.out _ _ ?_)⟩
 exact gd.next hd (u := undef) rel_undef gd.st (Ext.refl _ _) (fun _ _ _ h => h)
theorem AL.guard_undef {ops : Array Oper} {rest : List Oper} {o : Oper} {g t : Nat} {b : Bool} (hg : o.guard = some (g, b)) (ht : (ops[g]?).bind (·.dst) = some t) (hb : get af t = some (.tup []))
  (hd : okDst o.dst C.n = true) (hk : AL C ds ks ops rest (put af o.dst (.tup [])) ah) : AL C ds ks ops (o :: rest) af ah := .mk fun a w gd => by
 refine wpListIn_step fun K hK => ?_
 have hy := yielded_undef gd.fr ht hb
 have hw : Region.wanted o (yielded ops a.tmps) = false := by simp [Region.wanted, hg, hy]
 rw [if_neg (by simp [hw])]
 refine ⟨fun _ _ => trivial, hK _ _ (hk.out _ _ ?_)⟩
 exact gd.next hd (u := undef) rel_undef gd.st (Ext.refl _ _) (fun _ _ _ h => h)
theorem AL.guard_do {ops : Array Oper} {rest : List Oper} {o : Oper} {g t : Nat} {b : Bool} (hg : o.guard = some (g, b)) (ht : (ops[g]?).bind (·.dst) = some t) (hn : Nat.blt t C.n = true) (hb : get af t = some (.bool b))
  (hk : AL C ds ks ops ({ o with guard := none } :: rest) af ah) : AL C ds ks ops (o :: rest) af ah := .mk fun a w gd => by
 have h := hk.out a w gd
 have hy := yielded_of (C := C) gd.fr gd.size ht hn hb
 have hw : Region.wanted o (yielded ops a.tmps) = true := by simp [Region.wanted, hg, hy]
 unfold wpListIn at h ⊢
 rw [if_pos (by simp [Region.wanted])] at h
 rw [if_pos hw]
 exact h
end
noncomputable def least (G : Nat → Prop) : Nat := Classical.epsilon fun m => G m ∧ ∀ k, k < m → ¬ G k
theorem least_spec {G : Nat → Prop} (h : ∃ m, G m) : G (least G) ∧ ∀ k, k < least G → ¬ G k := by
 have : ∃ m, G m ∧ ∀ k, k < m → ¬ G k := by
  obtain ⟨m, hm⟩ := h
  induction m using Nat.strongRecOn with
  | _ m ih =>
   by_cases hk : ∃ k, k < m ∧ G k
   ·obtain ⟨k, hk, hg⟩ := hk; exact ih k hk hg
   ·exact ⟨m, hm, fun k hk' hg => hk ⟨k, hk', hg⟩⟩
 exact Classical.epsilon_spec this
def Jn (C : Cx) (ds : List Deferred) (I : Nat → AF → AH → Prop) (m : Nat) (a : Act) (w : World) : Prop := ∃ m', m' < m ∧ ∃ af ah, I m' af ah ∧ Good C ds af ah a w
section
variable {C : Cx} {ds : List Deferred} {ks : List K} {af : AF} {ah : AH}
theorem AW.loop {x : Code} (I : Nat → AF → AH → Prop) (m0 : Nat) (h0 : I m0 af ah) (round : ∀ m af ah, I m af ah → AW C ds (.c x :: .back (Jn C ds I m) :: ks) af ah) :
  AW C ds (.c (.loop x) :: ks) af ah := .mk fun a w g => by
 simp only [hnd]
 let G : Act → World → Nat → Prop := fun a w m => ∃ af ah, I m af ah ∧ Good C ds af ah a w
 refine wpIn_loop (fun a w => ∃ m, G a w m) (fun a w => least (G a w)) ⟨m0, af, ah, h0, g⟩ fun a w hI => ?_
 obtain ⟨⟨af, ah, hi, hg⟩, _⟩ := least_spec hI
 have h := (round _ af ah hi).out a w hg
 simp only [hnd] at h
 refine Code.wpIn_mono (fun e a' w' q => ?_) h
 cases e with
 | normal =>
  simp only [hnd] at q
  obtain ⟨m', hlt, af', ah', hi', hg'⟩ := q
  have hex : ∃ m, G a' w' m := ⟨m', af', ah', hi', hg'⟩
  refine ⟨hex, ?_⟩
  have hl := (least_spec hex).2
  rcases Nat.lt_or_ge (least (G a' w')) (least (G a w)) with h1 | h1
  ·exact h1
  ·exact absurd ⟨af', ah', hi', hg'⟩ (hl m' (by omega))
 | _ => simpa [hnd, Exit.then] using q
theorem AW.again {I : Nat → AF → AH → Prop} {m : Nat} (m' : Nat) (af' : AF) (hm : m' < m) (hi : I m' af' ah) (hf : ∀ i v, get af' i = some v → get af i = some v) :
  AW C ds (.back (Jn C ds I m) :: ks) af ah := .mk fun a w g => by
 simp only [hnd]
 exact ⟨m', hm, af', ah, hi, { g with fr := fun i v hi => g.fr i v (hf i v hi) }⟩
def keep : List Nat → AF → AF
 | [], _ => []
 | i :: is, af => match get af i with | some v => (i, v) :: keep is af | none => keep is af
theorem get_keep {is : List Nat} {i : Nat} {v : AV} (h : get (keep is af) i = some v) : get af i = some v := by
 induction is with
 | nil => simp [keep, get] at h
 | cons j is ih =>
  simp only [keep] at h
  split at h
  ·rename_i u hu
   rw [get_cons] at h
   by_cases e : j = i
   ·subst e; rw [if_pos rfl] at h; rw [hu]; exact h
   ·rw [if_neg e] at h; exact ih h
  ·exact ih h
theorem AW.prune (is : List Nat) (h : AW C ds ks (keep is af) ah) : AW C ds ks af ah := h.weaken fun _ _ hi => get_keep hi
theorem AW.again_keep {I : Nat → AF → AH → Prop} {m : Nat} (m' : Nat) (is : List Nat) (hm : m' < m) (hi : I m' (keep is af) ah) : AW C ds (.back (Jn C ds I m) :: ks) af ah :=
 AW.again m' _ hm hi fun _ _ hi => get_keep hi
theorem AW.frame_eq {af' : AF} {ah' : AH} (h1 : af = af') (h2 : ah = ah') (h : AW C ds ks af' ah') : AW C ds ks af ah := by subst h1; subst h2; exact h
end
def enumFrom : Nat → List AV → AF
 | _, [] => []
 | i, v :: vs => (i, v) :: enumFrom (i + 1) vs
abbrev Cof (P : Program) (fn : Func) (n : Nat) (Fr R0 : Rg) (w0 : World) (Φ : AEnd → AH → Prop) : Cx := { P, n, Fr, R0, w0, R := bodyPost P fn (EndR Fr R0 w0 Φ) }
theorem RelVs.length {S : Rg} {w : World} : ∀ {xs : List AV} {us : List Value}, RelVs S w xs us → us.length = xs.length
 | [], us, h => by simp only [RelVs] at h; subst h; rfl
 | x :: xs, us, h => by
  simp only [RelVs] at h
  obtain ⟨u, us', rfl, _, _, h⟩ := h
  simp [RelVs.length h]
theorem RelVs.get {S : Rg} {w : World} : ∀ {xs : List AV} {us : List Value} (_ : RelVs S w xs us) (i : Nat) (x : AV), xs[i]? = some x → ∃ u, us[i]? = some u ∧ Rel S w x u
 | [], us, h, i, x, hx => by simp at hx
 | y :: xs, us, h, i, x, hx => by
  simp only [RelVs] at h
  obtain ⟨u, us', rfl, h1, h2, h3⟩ := h
  cases i with
  | zero => simp only [List.getElem?_cons_zero, Option.some.injEq] at hx; subst hx; exact ⟨u, rfl, h1, h2⟩
  | succ i => simpa using RelVs.get h3 i x (by simpa using hx)
theorem get_enumFrom : ∀ (xs : List AV) (k i : Nat) (v : AV), SX.get (enumFrom k xs) i = some v → k ≤ i ∧ xs[i - k]? = some v
 | [], _, _, _, h => by simp [enumFrom, SX.get] at h
 | x :: xs, k, i, v, h => by
  simp only [enumFrom, get_cons] at h
  by_cases e : k = i
  ·subst e; rw [if_pos rfl] at h; obtain rfl := Option.some.inj h; simp
  ·rw [if_neg e] at h
   obtain ⟨h1, h2⟩ := get_enumFrom xs (k + 1) i v h
   refine ⟨by omega, ?_⟩
   have : i - k = (i - (k + 1)) + 1 := by omega
   rw [this]; simpa using h2
theorem Tri.enter {P : Program} {f : FuncId} {args : List AV} {ah : AH} {Φ : AEnd → AH → Prop} {fn : Func} {c : Code} (n : Nat) (hf : P.funcs[f]? = some fn) (hb : fn.body = some c)
  (hname : (fn.name == "runtime.NumGoroutine") = false) (hn : fn.ntmps = n) (hl : Nat.ble args.length n = true)
  (h : ∀ Fr w0, AW (Cof P fn n Fr (reg ah) w0 Φ) [] [.c c] (enumFrom 0 args) ah) : Tri P f args ah Φ := by
 refine ⟨⟨fn, hf, hname, by rw [hb]; rfl⟩, fun Fr w vs hst hrel => calls_of_wp hf hb ((wpIn_wide (n := 0)).1 ?_)⟩
 have hlen := hrel.length
 have hl' : args.length ≤ n := by simpa using hl
 have := (h Fr w).out { tmps := vs.toArray ++ Array.replicate (fn.ntmps - vs.toArray.size) undef, defers := [] } w ⟨by simp [hn]; omega, rfl, hst, Ext.refl _ _, fun _ _ _ h => h, ?_⟩
 ·have h2 : Code.wpIn (fz none) 0 P c (bodyPost P fn (EndR Fr (reg ah) w Φ)) { tmps := vs.toArray ++ Array.replicate (fn.ntmps - vs.toArray.size) undef, defers := [] } w := by simpa only [hnd] using this
  exact h2
 ·intro i v hi
  obtain ⟨_, hx⟩ := get_enumFrom args 0 i v hi
  obtain ⟨u, hu, hr⟩ := hrel.get i v (by simpa using hx)
  have : (vs.toArray ++ Array.replicate (fn.ntmps - vs.toArray.size) undef).getD i undef = u := by
   have hlt : i < vs.length := (List.getElem?_eq_some_iff.1 hu).1
   rw [Array.getD_eq_getD_getElem?, Array.getElem?_append_left (by simpa using hlt)]
   simp [hu]
  rw [this]; exact hr
def resList : List ResultVar → AF → Option (List AV)
 | [], _ => some []
 | .tmp t :: rs, af => match SX.get af t, resList rs af with | some v, some vs => some (v :: vs) | _, _ => none
 | .cell _ _ :: _, _ => none
def resAV (rs : List ResultVar) (af : AF) : Option AV := match resList rs af with | some [v] => some v | some vs => some (.tup vs) | none => none
def rvRun (tmps : Array Value) : ResultVar → Sem Value
 | .tmp t => Pure.pure (tmps.getD t undef)
 | .cell b t => do Go.loadVar t (← asAddr (tmps.getD b undef))
theorem results_eq (fn : Func) (tmps : Array Value) : results fn tmps = (do let vs ← fn.results.mapM (rvRun tmps); Pure.pure (if h : vs.size = 1 then vs[0] else .tuple vs)) := rfl
theorem resList_run {P : Program} {S : Rg} {w : World} {af : AF} {a : Act} (hf : AFRel S w af a) : ∀ (rs : List ResultVar) (vs : List AV), resList rs af = some vs →
  ∃ us : List Value, (rs.mapM (rvRun a.tmps)).run P w = .ok us w ∧ RelVs S w vs us
 | [], vs, h => by simp only [resList, Option.some.injEq] at h; subst h; exact ⟨[], by simp [List.mapM_nil], by simp [RelVs]⟩
 | .tmp t :: rs, vs, h => by
  simp only [resList] at h
  split at h
  ·rename_i v vs' hv hvs
   obtain rfl := Option.some.inj h
   obtain ⟨us, h1, h2⟩ := resList_run (P := P) hf rs vs' hvs
   refine ⟨a.tmps.getD t undef :: us, ?_, by simp only [RelVs]; exact ⟨_, us, rfl, (hf t v hv).1, (hf t v hv).2, h2⟩⟩
   simp only [List.mapM_cons, rvRun, Sem.run_bind, Sem.run_pure, Result.andThen_ok, h1]
  ·cases h
 | .cell b t :: rs, vs, h => by simp [resList] at h
theorem results_run {P : Program} {fn : Func} {S : Rg} {w : World} {af : AF} {a : Act} {v : AV} (hf : AFRel S w af a) (h : resAV fn.results.toList af = some v) : ∃ u, (results fn a.tmps).run P w = .ok u w ∧ Rel S w v u := by
 unfold resAV at h
 cases hl : resList fn.results.toList af with
 | none => simp [hl] at h
 | some vs =>
  obtain ⟨us, h1, h2⟩ := resList_run (P := P) hf _ _ hl
  have h1' : (results fn a.tmps).run P w = .ok (if h : us.toArray.size = 1 then us.toArray[0] else .tuple us.toArray) w := by
   rw [results_eq, Array.mapM_eq_mapM_toList]
   simp only [Sem.run_bind, Sem.run_map, Sem.run_pure, Result.andThen_ok, h1]
  rw [hl] at h
  match vs, h, h2 with
  | [x], h, h2 =>
   simp only [Option.some.injEq] at h
   subst h
   simp only [RelVs] at h2
   obtain ⟨u, us', rfl, h3, h4, rfl⟩ := h2
   exact ⟨u, by simpa using h1', h3, h4⟩
  | [], h, h2 =>
   simp only [Option.some.injEq] at h
   subst h
   simp only [RelVs] at h2
   subst h2
   exact ⟨_, by simpa using h1', by simp [RelC, RelVs, Value.cells], by simp [Shape]⟩
  | x :: y :: zs, h, h2 =>
   simp only [Option.some.injEq] at h
   subst h
   have hlen := h2.length
   refine ⟨.tuple us.toArray, ?_, ?_, by simp [Shape]⟩
   ·rw [dif_neg (by simp [hlen])] at h1'; exact h1'
   ·simp only [RelC, Value.cells]; exact ⟨us, rfl, h2⟩
section
variable {P : Program} {fn : Func} {n : Nat} {Fr R0 : Rg} {w0 : World} {Φ : AEnd → AH → Prop} {ks : List K} {af : AF} {ah : AH}
theorem AW.retv {v : AV} (hr : resAV fn.results.toList af = some v) (hΦ : Φ (.ret v) ah) : AW (Cof P fn n Fr R0 w0 Φ) [] (.c .ret :: ks) af ah := AW.ret fun a w g => by
 obtain ⟨u, h1, h2⟩ := results_run (P := P) g.fr hr
 exact ⟨g.defers, u, h1, _, _, hΦ, ⟨u, rfl, h2⟩, g.st, g.ext, g.old⟩
theorem AW.donev {v : AV} (hr : resAV fn.results.toList af = some v) (hΦ : Φ (.ret v) ah) : AW (Cof P fn n Fr R0 w0 Φ) [] [] af ah := AW.done fun a w g => by
 obtain ⟨u, h1, h2⟩ := results_run (P := P) g.fr hr
 exact ⟨g.defers, u, h1, _, _, hΦ, ⟨u, rfl, h2⟩, g.st, g.ext, g.old⟩
theorem APan.of {v : AV} (hΦ : Φ (.pan v) ah) : APan (Cof P fn n Fr R0 w0 Φ) [] v ah := .mk fun a w u g hu => ⟨g.defers, _, _, hΦ, ⟨u, rfl, hu⟩, g.st, g.ext, g.old⟩
end
def sel : List Bool → AH → AH
 | true :: m, x :: ah => x :: sel m ah
 | false :: m, _ :: ah => sel m ah
 | _, _ => []
def uns : List Bool → AH → AH
 | true :: m, _ :: ah => uns m ah
 | false :: m, x :: ah => x :: uns m ah
 | _, ah => ah
theorem sel_perm : ∀ (m : List Bool) (ah : AH), (sel m ah ++ uns m ah).Perm ah
 | [], ah => by simp [sel, uns]
 | true :: m, [] => by simp [sel, uns]
 | false :: m, [] => by simp [sel, uns]
 | true :: m, x :: ah => by simpa [sel, uns] using sel_perm m ah
 | false :: m, x :: ah => by
  simp only [sel, uns]
  exact List.perm_middle.trans ((sel_perm m ah).cons x)
theorem reg_append {a b : AH} {x y : Nat} : reg (a ++ b) x y ↔ reg a x y ∨ reg b x y := by
 simp only [reg, List.mem_append, or_and_right, exists_or]
theorem reg_perm {a b : AH} (h : a.Perm b) {x y : Nat} : reg a x y ↔ reg b x y := by
 simp only [reg, h.mem_iff]
theorem reg_self {x : Own} {b : Nat} (h : x.blk = some b) : ∃ off, x.reg b off := by
 cases x with
 | tail b' n c sz => exact ⟨n * sz, by simp only [Own.blk] at h; simp [Own.reg, h]⟩
 | _ => exact ⟨0, by simpa [Own.blk, Own.reg, eq_comm] using h⟩
theorem Mv.same {S S' : Rg} (w : World) (h : ∀ b o, S' b o → S b o) : Mv S S' w w := fun _ _ hc hs => ⟨hc, fun h' => hs (h _ _ h')⟩
theorem St.perm {Fr : Rg} {a b : AH} {w : World} (h : a.Perm b) (s : St Fr a w) : St Fr b w where
 nodup := (h.filterMap Own.blk).nodup s.nodup
 lt := fun o ho => s.lt o (h.mem_iff.2 ho)
 fr := fun o ho => s.fr o (h.mem_iff.2 ho)
 frlt := s.frlt
 rel := fun o ho => (s.rel o (h.mem_iff.2 ho)).mv (Mv.same w fun b o hs => hs.elim .inl fun h' => .inr ((reg_perm h).2 h')) fun _ _ => rfl
theorem EndR.perm {Fr R0 : Rg} {w0 : World} {Φ : AEnd → AH → Prop} {R1 : Rg} (h : ∀ b o, R0 b o ↔ R1 b o) {e : Ending} {w : World} (k : EndR Fr R0 w0 Φ e w) : EndR Fr R1 w0 Φ e w := by
 have : R0 = R1 := by funext b o; exact propext (h b o)
 exact this ▸ k
theorem blk_ne {Fr : Rg} {a b : AH} {w : World} (s : St Fr (a ++ b) w) {x y : Own} (hx : x ∈ a) (hy : y ∈ b) {k : Nat} (h1 : x.blk = some k) (h2 : y.blk = some k) : False := by
 have hn := s.nodup
 rw [List.filterMap_append, List.nodup_append] at hn
 exact hn.2.2 k (List.mem_filterMap.2 ⟨x, hx, h1⟩) k (List.mem_filterMap.2 ⟨y, hy, h2⟩) rfl
theorem St.part {Fr : Rg} {a b : AH} {w : World} (s : St Fr (a ++ b) w) : St (Sof Fr b) a w where
 nodup := by have := s.nodup; rw [List.filterMap_append, List.nodup_append] at this; exact this.1
 lt := fun o ho => s.lt o (List.mem_append_left _ ho)
 fr := fun o ho k hk off hS => by
  rcases hS with hS | ⟨y, hy, hr⟩
  ·exact s.fr o (List.mem_append_left _ ho) k hk off hS
  ·exact blk_ne s ho hy hk (reg_blk hr)
 frlt := fun k o hS => by
  rcases hS with hS | ⟨y, hy, hr⟩
  ·exact s.frlt k o hS
  ·exact s.lt y (List.mem_append_right _ hy) k (reg_blk hr)
 rel := fun o ho => (s.rel o (List.mem_append_left _ ho)).mv (Mv.same w fun k o hs => by
  rcases hs with (hs | hs) | hs
  ·exact .inl hs
  ·exact .inr (reg_append.2 (.inr hs))
  ·exact .inr (reg_append.2 (.inl hs))) fun _ _ => rfl
theorem sof_part (Fr : Rg) (a b : AH) : Sof (Sof Fr b) a = Sof Fr (a ++ b) := by
 funext x y
 refine propext ⟨?_, ?_⟩
 ·rintro ((h | h) | h)
  ·exact .inl h
  ·exact .inr (reg_append.2 (.inr h))
  ·exact .inr (reg_append.2 (.inl h))
 ·rintro (h | h)
  ·exact .inl (.inl h)
  ·rcases reg_append.1 h with h | h
   ·exact .inr h
   ·exact .inl (.inr h)
theorem EndR.frame {Fr : Rg} {a b : AH} {w : World} (s : St Fr (a ++ b) w) {Φ : AEnd → AH → Prop} {e : Ending} {w' : World} (h : EndR (Sof Fr b) (reg a) w Φ e w') :
  EndR Fr (reg (a ++ b)) w (fun x h => ∃ h1, Φ x h1 ∧ h = h1 ++ b) e w' := by
 obtain ⟨x, h1, hΦ, he, hst, hx, hn⟩ := h
 have hlt : ∀ y ∈ b, ∀ k, y.blk = some k → k < w.heap.size := fun y hy => s.lt y (List.mem_append_right _ hy)
 have hnew : ∀ k o, k < w.heap.size → reg (h1 ++ b) k o → reg (a ++ b) k o := fun k o hk hr => by
  rcases reg_append.1 hr with hr | hr
  ·exact reg_append.2 (.inl (hn k o hk hr))
  ·exact reg_append.2 (.inr hr)
 have hx' : Ext (reg (a ++ b)) w w' := hx.mono fun _ _ h => reg_append.2 (.inl h)
 refine ⟨x, h1 ++ b, ⟨h1, hΦ, rfl⟩, by rw [sof_part] at he; exact he, ?_, hx', hnew⟩
 refine ⟨?_, ?_, ?_, ?_, ?_⟩
 ·have hb := s.nodup
  rw [List.filterMap_append, List.nodup_append] at hb ⊢
  refine ⟨hst.nodup, hb.2.1, fun k hk k' hk' e => ?_⟩
  subst e
  obtain ⟨y, hy, hyk⟩ := List.mem_filterMap.1 hk'
  obtain ⟨z, hz, hzk⟩ := List.mem_filterMap.1 hk
  obtain ⟨off, hoff⟩ := reg_self hyk
  exact hst.fr z hz k hzk off (.inr ⟨y, hy, hoff⟩)
 ·intro o ho k hk
  rcases List.mem_append.1 ho with ho | ho
  ·exact hst.lt o ho k hk
  ·exact Nat.lt_of_lt_of_le (hlt o ho k hk) hx.size
 ·intro o ho k hk off hF
  rcases List.mem_append.1 ho with ho | ho
  ·exact hst.fr o ho k hk off (.inl hF)
  ·exact s.fr o (List.mem_append_right _ ho) k hk off hF
 ·exact fun k o hF => Nat.lt_of_lt_of_le (s.frlt k o hF) hx.size
 ·intro o ho
  rcases List.mem_append.1 ho with ho | ho
  ·have := hst.rel o ho
   rwa [sof_part] at this
  ·refine (s.rel o (List.mem_append_right _ ho)).mv (Mv.of_ext hx' (fun _ _ h => h) hnew) fun k hk => hx.blk k (hlt o ho k hk) fun off hr => ?_
   obtain ⟨y, hy, hyr⟩ := hr
   exact blk_ne s hy ho (reg_blk hyr) hk
theorem Tri.frame {P : Program} {f : FuncId} {args : List AV} {ah : AH} {Φ : AEnd → AH → Prop} (m : List Bool) (h : Tri P f args (sel m ah) Φ) :
  Tri P f args ah (fun x h => ∃ h1, Φ x h1 ∧ h = h1 ++ uns m ah) := by
 refine ⟨h.1, fun Fr w vs hst hrel => ?_⟩
 have hp := sel_perm m ah
 have s := hst.perm hp.symm
 refine (h.2 (Sof Fr (uns m ah)) w vs s.part ?_).mono fun e w' he => (EndR.frame s he).perm fun b o => reg_perm hp
 rw [sof_part]
 exact RelVs.mv (Mv.same w fun b o hs => hs.elim .inl fun h' => .inr ((reg_perm hp).1 h')) _ _ hrel
theorem Tri.frameD {P : Program} {f : FuncId} {args : List AV} {ah ah' : AH} {v : AV} (m : List Bool) (h : Tri P f args (sel m ah) (D v ah')) : Tri P f args ah (D v (ah' ++ uns m ah)) :=
 (Tri.frame m h).mono fun _ _ ⟨_, ⟨h1, h2⟩, h3⟩ => ⟨h1, by rw [h3, h2]⟩
theorem Tri.pure {P : Program} {f : FuncId} {args : List AV} {v : AV} (h : Tri P f args [] (D v [])) (ah : AH) : Tri P f args ah (D v ah) := Tri.frameD [] (ah := ah) h
section
variable {S : Rg} {w : World} {u : Value}
theorem Rel.int {k : IntKind} {n : Int} (h : Rel S w (.int k n) u) : u = .int k n := by
 have h1 := h.1; have h2 := h.2
 simp only [RelC] at h1; revert h1 h2
 cases u <;> simp [Value.cells, Shape]
theorem Rel.bool {b : Bool} (h : Rel S w (.bool b) u) : u = .bool b := by
 have h1 := h.1; have h2 := h.2
 simp only [RelC] at h1; revert h1 h2
 cases u <;> simp [Value.cells, Shape]
theorem Rel.str {s : ByteArray} (h : Rel S w (.str s) u) : u = .string s := by
 have h1 := h.1; have h2 := h.2
 simp only [RelC] at h1; revert h1 h2
 cases u <;> simp [Value.cells, Shape]
theorem one_of_shape {x : Value} (h2 : ∀ cs, u ≠ .agg cs) (h1 : u.cells.toList = [x]) : u = x := by
 revert h1 h2
 cases u <;> simp [Value.cells]
theorem Rel.ref {b o : Nat} (h : Rel S w (.ref b o) u) : u = .pointer (some ⟨b, o, none⟩) := one_of_shape h.2 (by simpa [RelC] using h.1)
theorem Rel.map {b : Nat} (h : Rel S w (.map b) u) : u = .map (some b) := one_of_shape h.2 (by simpa [RelC] using h.1)
theorem Rel.val {v : Value} (h : Rel S w (.val v) u) : u = v := h.2
theorem Rel.sl {xs : List AV} (h : Rel S w (.sl xs) u) : ∃ A c, u = .slice A xs.length c ∧ xs.length ≤ c ∧ c ≤ maxLen ∧ (xs ≠ [] → ∃ b o sz, A = some ⟨b, o, none⟩ ∧ RelRow S w xs sz b o) := by
 have h1 := h.1
 simp only [RelC] at h1
 obtain ⟨A, c, h1, h3⟩ := h1
 exact ⟨A, c, one_of_shape h.2 h1, h3⟩
theorem Rel.slt {xs : List AV} {b : Option Nat} {c : Nat} (h : Rel S w (.slt xs b c) u) : u = .slice (b.map fun b => ⟨b, 0, none⟩) xs.length c ∧ xs.length ≤ c ∧ c ≤ maxLen ∧ (xs ≠ [] → ∃ b' sz, b = some b' ∧ RelRow S w xs sz b' 0) := by
 have h1 := h.1
 simp only [RelC] at h1
 exact ⟨one_of_shape h.2 h1.1, h1.2⟩
theorem Rel.osl {b n c : Nat} (h : Rel S w (.osl b n c) u) : u = .slice (some ⟨b, 0, none⟩) n c ∧ n ≤ c ∧ c ≤ maxLen := by
 have h1 := h.1
 simp only [RelC] at h1
 exact ⟨one_of_shape h.2 h1.1, h1.2⟩
theorem Rel.at {d : AV} (h : Rel S w (.at d) u) : ∃ b o ds, u = .pointer (some ⟨b, o, none⟩) ∧ RelC S w d ds ∧ ∀ j v, ds[j]? = some v → ¬ S b (o + j) ∧ w.cell? ⟨b, o + j, none⟩ = some v := by
 have h1 := h.1
 simp only [RelC] at h1
 obtain ⟨b, o, ds, h1, h3⟩ := h1
 exact ⟨b, o, ds, one_of_shape h.2 h1, h3⟩
theorem Rel.fn {f : FuncId} {cs : List AV} (h : Rel S w (.fn f cs) u) : ∃ vs, u = .func (.func f) #[] (List.toArray vs) ∧ RelVs S w cs vs := by
 have h1 := h.1
 simp only [RelC] at h1
 obtain ⟨vs, h1, h3⟩ := h1
 exact ⟨vs, one_of_shape h.2 h1, h3⟩
theorem Rel.tup {vs : List AV} (h : Rel S w (.tup vs) u) : ∃ us, u = .tuple (List.toArray us) ∧ RelVs S w vs us := by
 have h1 := h.1
 simp only [RelC] at h1
 obtain ⟨us, h1, h3⟩ := h1
 exact ⟨us, one_of_shape h.2 h1, h3⟩
theorem Rel.st {fs : List AV} (h : Rel S w (.st fs) u) : ∃ cs, u = .agg (List.toArray cs) ∧ RelCs S w fs cs := by
 obtain ⟨cs, rfl⟩ := h.2
 have h1 := h.1
 simp only [RelC, Value.cells] at h1
 exact ⟨cs.toList, by simp, h1⟩
theorem mk_int {k : IntKind} {n : Int} : Rel S w (.int k n) (.int k n) := ⟨by simp [RelC, Value.cells], by simp [Shape]⟩
theorem mk_bool {b : Bool} : Rel S w (.bool b) (.bool b) := ⟨by simp [RelC, Value.cells], by simp [Shape]⟩
theorem mk_str {b : ByteArray} : Rel S w (.str b) (.string b) := ⟨by simp [RelC, Value.cells], by simp [Shape]⟩
theorem mk_ref {b o : Nat} : Rel S w (.ref b o) (.pointer (some ⟨b, o, none⟩)) := ⟨by simp [RelC, Value.cells], by simp [Shape]⟩
theorem mk_map {b : Nat} : Rel S w (.map b) (.map (some b)) := ⟨by simp [RelC, Value.cells], by simp [Shape]⟩
theorem mk_osl {b n c : Nat} (h : n ≤ c) (k : c ≤ maxLen) : Rel S w (.osl b n c) (.slice (some ⟨b, 0, none⟩) n c) := ⟨by simp [RelC, Value.cells, h, k], by simp [Shape]⟩
end
mutual
def AV.size : AV → Nat
 | .st fs => AV.sizes fs
 | .val v => v.cells.size
 | _ => 1
def AV.sizes : List AV → Nat
 | [] => 0
 | x :: xs => AV.size x + AV.sizes xs
end
section
variable {S : Rg} {w : World}
mutual
theorem RelC.size : ∀ (x : AV) (cs : List Value), RelC S w x cs → cs.length = x.size
 | .any, _, h => by simp only [RelC] at h; obtain ⟨v, rfl⟩ := h; rfl
 | .int _ _, _, h => by simp only [RelC] at h; subst h; rfl
 | .bool _, _, h => by simp only [RelC] at h; subst h; rfl
 | .str _, _, h => by simp only [RelC] at h; subst h; rfl
 | .st fs, cs, h => by simp only [RelC] at h; simp only [AV.size]; exact RelCs.size fs cs h
 | .sl xs, cs, h => by simp only [RelC] at h; obtain ⟨A, c, rfl, _⟩ := h; rfl
 | .slt xs b cap, cs, h => by simp only [RelC] at h; obtain ⟨rfl, _⟩ := h; rfl
 | .osl _ _ _, _, h => by simp only [RelC] at h; obtain ⟨rfl, _⟩ := h; rfl
 | .at d, cs, h => by simp only [RelC] at h; obtain ⟨b, o, ds, rfl, _⟩ := h; rfl
 | .ref _ _, _, h => by simp only [RelC] at h; subst h; rfl
 | .map _, _, h => by simp only [RelC] at h; subst h; rfl
 | .fn _ caps, cs, h => by simp only [RelC] at h; obtain ⟨vs, rfl, _⟩ := h; rfl
 | .yl _ _ _ _, cs, h => by simp only [RelC] at h; obtain ⟨rfl, _⟩ := h; rfl
 | .tup vs, cs, h => by simp only [RelC] at h; obtain ⟨us, rfl, _⟩ := h; rfl
 | .val _, _, h => by simp only [RelC] at h; subst h; simp [AV.size]
theorem RelCs.size : ∀ (xs : List AV) (cs : List Value), RelCs S w xs cs → cs.length = AV.sizes xs
 | [], _, h => by simp only [RelCs] at h; subst h; rfl
 | x :: xs, cs, h => by
  simp only [RelCs] at h
  obtain ⟨c1, c2, rfl, h2, h3⟩ := h
  simp [AV.sizes, RelC.size x c1 h2, RelCs.size xs c2 h3]
end
end
def aggB : TypeDesc → Bool | .struct _ => true | .array _ _ => true | _ => false
def tkind (P : Program) (t : TypeId) : Option (Bool × Nat) := match P.underlying t, P.info? t with | some d, some i => some (aggB d, i.size) | _, _ => none
theorem run_isAgg {P : Program} {t : TypeId} {b : Bool} {n : Nat} (h : tkind P t = some (b, n)) (w : World) : (isAgg t).run P w = .ok b w := by
 unfold tkind at h
 split at h
 ·rename_i d i hd hi
  simp only [Option.some.injEq, Prod.mk.injEq] at h
  obtain ⟨rfl, rfl⟩ := h
  unfold isAgg
  simp only [Sem.run_bind, run_underlying hd, Result.andThen_ok]
  cases d <;> rfl
 ·cases h
theorem run_sizeOf {P : Program} {t : TypeId} {b : Bool} {n : Nat} (h : tkind P t = some (b, n)) (w : World) : (sizeOf t).run P w = .ok n w := by
 unfold tkind at h
 split at h
 ·rename_i d i hd hi
  simp only [Option.some.injEq, Prod.mk.injEq] at h
  obtain ⟨rfl, rfl⟩ := h
  simp [sizeOf, typeInfo, hi]
 ·cases h
def AV.isAny : AV → Bool | .any => true | _ => false
def AV.isSt : AV → Bool | .st _ => true | .val (.agg _) => true | _ => false
theorem run_loadCellsFrom {P : Program} {w : World} {ad : Addr} : ∀ (n i : Nat) (ds : List Value) (acc : Array Value), ds.length = n → (∀ j v, ds[j]? = some v → w.cell? (ad.add (i + j)) = some v) →
  (loadCellsFrom ad i n acc).run P w = .ok (acc ++ ds.toArray) w
 | 0, i, ds, acc, hl, h => by
  have : ds = [] := List.eq_nil_of_length_eq_zero hl
  subst this
  simp [loadCellsFrom]
 | n + 1, i, ds, acc, hl, h => by
  match ds, hl with
  | d :: ds, hl =>
   have h0 := h 0 d (by simp)
   simp only [Nat.add_zero] at h0
   unfold loadCellsFrom
   simp only [Sem.run_bind, run_load, h0, Result.andThen_ok]
   rw [run_loadCellsFrom n (i + 1) ds (acc.push d) (by simpa using hl) (fun j v hj => by have := h (j + 1) v (by simpa using hj); rwa [Nat.add_assoc, Nat.add_comm 1 j])]
   rw [Array.push_eq_append, Array.append_assoc]
   simp
theorem addr_add (b o j : Nat) : (⟨b, o, none⟩ : Addr).add j = ⟨b, o + j, none⟩ := by
 unfold Addr.add; split
 ·rename_i h; subst h; rfl
 ·rfl
theorem run_loadVar {P : Program} {S : Rg} {w : World} {t : TypeId} {b o : Nat} {d : AV} {ds : List Value} (hany : d.isAny = false) (ht : tkind P t = some (d.isSt, d.size)) (hr : RelC S w d ds)
  (hc : ∀ j v, ds[j]? = some v → w.cell? ⟨b, o + j, none⟩ = some v) : ∃ u, (loadVar t ⟨b, o, none⟩).run P w = .ok u w ∧ Rel S w d u := by
 have hl := RelC.size d ds hr
 unfold loadVar
 simp only [Sem.run_bind, run_isAgg ht, Result.andThen_ok]
 cases hd : d.isSt with
 | true =>
  simp only [hd, if_true]
  refine ⟨.agg ds.toArray, ?_, ?_, ?_⟩
  ·simp only [Sem.run_bind, run_sizeOf ht, Result.andThen_ok, loadCells]
   rw [run_loadCellsFrom _ 0 ds #[] hl (fun j v hj => by rw [addr_add]; simpa using hc j v hj)]
   simp
  ·simpa [Value.cells] using hr
  ·cases d <;> simp [AV.isSt] at hd
   ·simp [Shape]
   ·rename_i v
    cases v <;> simp at hd
    simp only [RelC, Value.cells] at hr
    simp [Shape, hr]
 | false =>
  simp only [hd, Bool.false_eq_true, if_false]
  have h1 : d.size = 1 ∧ ∀ u, ds = [u] → Rel S w d u := by
   cases d <;> simp [AV.isSt] at hd <;> refine ⟨?_, ?_⟩ <;> try (intro u e; subst e)
   all_goals first
    | rfl
    | skip
   case any => cases hany
   case int => simp only [RelC, List.cons.injEq, and_true] at hr; subst hr; exact mk_int
   case bool => simp only [RelC, List.cons.injEq, and_true] at hr; subst hr; exact mk_bool
   case str => simp only [RelC, List.cons.injEq, and_true] at hr; subst hr; exact mk_str
   case sl =>
    have h0 := hr
    simp only [RelC] at h0
    obtain ⟨A, c, e, _⟩ := h0
    injection e with e
    subst e
    exact ⟨by simpa [Value.cells] using hr, by simp [Shape]⟩
   case slt =>
    have h0 := hr
    simp only [RelC] at h0
    obtain ⟨e, _⟩ := h0
    injection e with e
    subst e
    exact ⟨by simpa [Value.cells] using hr, by simp [Shape]⟩
   case osl =>
    have h0 := hr
    simp only [RelC] at h0
    obtain ⟨e, _⟩ := h0
    injection e with e
    subst e
    exact ⟨by simpa [Value.cells] using hr, by simp [Shape]⟩
   case «at» =>
    have h0 := hr
    simp only [RelC] at h0
    obtain ⟨_, _, _, e, _⟩ := h0
    injection e with e
    subst e
    exact ⟨by simpa [Value.cells] using hr, by simp [Shape]⟩
   case ref => simp only [RelC, List.cons.injEq, and_true] at hr; subst hr; exact mk_ref
   case map => simp only [RelC, List.cons.injEq, and_true] at hr; subst hr; exact mk_map
   case fn =>
    have h0 := hr
    simp only [RelC] at h0
    obtain ⟨_, e, _⟩ := h0
    injection e with e
    subst e
    exact ⟨by simpa [Value.cells] using hr, by simp [Shape]⟩
   case yl =>
    have h0 := hr
    simp only [RelC] at h0
    obtain ⟨e, _⟩ := h0
    injection e with e
    subst e
    exact ⟨by simpa [Value.cells] using hr, by simp [Shape]⟩
   case tup =>
    have h0 := hr
    simp only [RelC] at h0
    obtain ⟨_, e, _⟩ := h0
    injection e with e
    subst e
    exact ⟨by simpa [Value.cells] using hr, by simp [Shape]⟩
   case val.refine_1 v => cases v <;> simp [AV.size, Value.cells] at hd ⊢
   case val.refine_2 v =>
    simp only [RelC] at hr
    cases v <;> simp [Value.cells] at hd hr <;> subst hr <;> exact ⟨by simp [RelC, Value.cells], by simp [Shape]⟩
  obtain ⟨v, rfl⟩ : ∃ v, ds = [v] := by
   match ds, hl.trans h1.1 with
   | [v], _ => exact ⟨v, rfl⟩
  refine ⟨v, ?_, h1.2 v rfl⟩
  have := hc 0 v rfl
  simp only [Nat.add_zero] at this
  simp [run_load, this]
section
variable {P : Program} {af : AF} {ah : AH}
theorem AOp.of_pure {o : Oper} {v : AV} (h : ∀ S a w, AFRel S w af a → (∀ x ∈ ah, OwnRel S w x) → ∃ u, (execOp a.eval o).run P w = .ok (.value u) w ∧ Rel S w v u) : AOp P o af ah (D v ah) :=
 .mk fun Fr a w hst hf => by
  obtain ⟨u, h1, h2⟩ := h _ a w hf hst.rel
  rw [h1]
  exact ⟨_, _, ⟨rfl, rfl⟩, ⟨u, rfl, h2⟩, hst, Ext.refl _ _, fun _ _ _ h => h⟩
variable {d : Option Tmp} {T : TypeId} {ps : String} {es : Array Edge} {gd : Option (Nat × Bool)}
theorem AOp.move {x : Operand} {v : AV} (hx : aeval af x = some v) : AOp P ⟨d, .move x, T, ps, es, gd⟩ af ah (D v ah) :=
 AOp.of_pure fun S a w hf _ => ⟨a.eval x, by simp [execOp], aeval_rel hf hx⟩
theorem AOp.assign {x : Operand} {v : AV} (hx : aeval af x = some v) : AOp P ⟨d, .assign x, T, ps, es, gd⟩ af ah (D v ah) :=
 AOp.of_pure fun S a w hf _ => ⟨a.eval x, by simp [execOp], aeval_rel hf hx⟩
theorem AOp.pick_true {c x y : Operand} {v : AV} (hc : aeval af c = some (.bool true)) (hx : aeval af x = some v) : AOp P ⟨d, .pick c x y, T, ps, es, gd⟩ af ah (D v ah) :=
 AOp.of_pure fun S a w hf _ => ⟨a.eval x, by simp [execOp, (aeval_rel hf hc).bool, asBool], aeval_rel hf hx⟩
theorem AOp.pick_false {c x y : Operand} {v : AV} (hc : aeval af c = some (.bool false)) (hx : aeval af y = some v) : AOp P ⟨d, .pick c x y, T, ps, es, gd⟩ af ah (D v ah) :=
 AOp.of_pure fun S a w hf _ => ⟨a.eval y, by simp [execOp, (aeval_rel hf hc).bool, asBool], aeval_rel hf hx⟩
theorem AOp.cmp {op : BinOp} {x y : Operand} {k : IntKind} {m n : Int} {xT yT : TypeId} {b : Bool} (hx : aeval af x = some (.int k m)) (hy : aeval af y = some (.int k n))
  (hb : (match op with | .eql => some (m == n) | .neq => some (m != n) | .lss => some (decide (m < n)) | .leq => some (decide (m ≤ n)) | .gtr => some (decide (m > n)) | .geq => some (decide (m ≥ n)) | _ => none) = some b) :
  AOp P ⟨d, .binOp op xT x y yT, T, ps, es, gd⟩ af ah (D (.bool b) ah) :=
 AOp.of_pure fun S a w hf _ => by
  refine ⟨.bool b, ?_, mk_bool⟩
  cases op <;> simp at hb <;> subst hb <;> simp [execOp, (aeval_rel hf hx).int, (aeval_rel hf hy).int, eqGuard, binOp, Op.intCmp]
theorem wrap_id {x : Int} (h : -9223372036854775808 ≤ x ∧ x ≤ 9223372036854775807) : IntKind.i64.wrap x = x := by
 rw [IntKind.wrap_i64]; omega
theorem AOp.add {x y : Operand} {m n : Int} {xT yT : TypeId} (hx : aeval af x = some (.int .i64 m)) (hy : aeval af y = some (.int .i64 n)) (h : -9223372036854775808 ≤ m + n ∧ m + n ≤ 9223372036854775807) :
  AOp P ⟨d, .binOp .add xT x y yT, T, ps, es, gd⟩ af ah (D (.int .i64 (m + n)) ah) :=
 AOp.of_pure fun S a w hf _ => ⟨.int .i64 (m + n), by simp [execOp, (aeval_rel hf hx).int, (aeval_rel hf hy).int, eqGuard, binOp, Op.intArith, wrap_id h], mk_int⟩
theorem AOp.sub {x y : Operand} {m n : Int} {xT yT : TypeId} (hx : aeval af x = some (.int .i64 m)) (hy : aeval af y = some (.int .i64 n)) (h : -9223372036854775808 ≤ m - n ∧ m - n ≤ 9223372036854775807) :
  AOp P ⟨d, .binOp .sub xT x y yT, T, ps, es, gd⟩ af ah (D (.int .i64 (m - n)) ah) :=
 AOp.of_pure fun S a w hf _ => ⟨.int .i64 (m - n), by simp [execOp, (aeval_rel hf hx).int, (aeval_rel hf hy).int, eqGuard, binOp, Op.intArith, wrap_id h], mk_int⟩
theorem AOp.mul {x y : Operand} {m n : Int} {xT yT : TypeId} (hx : aeval af x = some (.int .i64 m)) (hy : aeval af y = some (.int .i64 n)) (h : -9223372036854775808 ≤ m * n ∧ m * n ≤ 9223372036854775807) :
  AOp P ⟨d, .binOp .mul xT x y yT, T, ps, es, gd⟩ af ah (D (.int .i64 (m * n)) ah) :=
 AOp.of_pure fun S a w hf _ => ⟨.int .i64 (m * n), by simp [execOp, (aeval_rel hf hx).int, (aeval_rel hf hy).int, eqGuard, binOp, Op.intArith, wrap_id h], mk_int⟩
theorem AOp.not {x : Operand} {b : Bool} {xT : TypeId} (hx : aeval af x = some (.bool b)) : AOp P ⟨d, .unOp .not xT x, T, ps, es, gd⟩ af ah (D (.bool (!b)) ah) :=
 AOp.of_pure fun S a w hf _ => ⟨.bool (!b), by simp [execOp, (aeval_rel hf hx).bool, Op.unary], mk_bool⟩
theorem AOp.extract {x : Operand} {vs : List AV} {i : Nat} {v : AV} (hx : aeval af x = some (.tup vs)) (hi : vs[i]? = some v) : AOp P ⟨d, .extract x i, T, ps, es, gd⟩ af ah (D v ah) :=
 AOp.of_pure fun S a w hf _ => by
  obtain ⟨us, hu, hr⟩ := (aeval_rel hf hx).tup
  obtain ⟨u, h1, h2⟩ := hr.get i v hi
  exact ⟨u, by simp [execOp, hu, Instr.extract, h1], h2⟩
theorem AOp.nil_ref {x : Operand} {b o : Nat} (hx : aeval af x = some (.ref b o)) : AOp P ⟨d, .nilCheck x, T, ps, es, gd⟩ af ah (D (.ref b o) ah) :=
 AOp.of_pure fun S a w hf _ => ⟨_, by simp [execOp, (aeval_rel hf hx).ref], mk_ref⟩
theorem AOp.nil_at {x : Operand} {v : AV} (hx : aeval af x = some (.at v)) : AOp P ⟨d, .nilCheck x, T, ps, es, gd⟩ af ah (D (.at v) ah) :=
 AOp.of_pure fun S a w hf _ => by
  obtain ⟨b, o, ds, hu, _⟩ := (aeval_rel hf hx).at
  exact ⟨a.eval x, by simp [execOp, hu], aeval_rel hf hx⟩
theorem AOp.load_at {x : Operand} {v : AV} {t : TypeId} (hx : aeval af x = some (.at v)) (hany : v.isAny = false) (ht : tkind P t = some (v.isSt, v.size)) : AOp P ⟨d, .load t x, T, ps, es, gd⟩ af ah (D v ah) :=
 AOp.of_pure fun S a w hf _ => by
  obtain ⟨b, o, ds, hu, hr, hc⟩ := (aeval_rel hf hx).at
  obtain ⟨u, h1, h2⟩ := run_loadVar hany ht hr (fun j v hj => (hc j v hj).2)
  exact ⟨u, by simp [execOp, hu, Instr.loadAt, Instr.sureAddr, h1], h2⟩
end
theorem nbeq_iff {a b : Nat} : Nat.beq a b = true ↔ a = b := ⟨Nat.eq_of_beq_eq_true, fun h => by subst h; exact Nat.beq_refl a⟩
def foff (P : Program) (T : TypeId) (k : Nat) : Option Nat :=
 match P.underlying T with
 | some (.struct fs) => match fs[k]? with
  | some f => match P.info? f.type with
   | some i => if i.size = 0 then none else some f.offset
   | none => none
  | none => none
 | _ => none
def esize (P : Program) (T : TypeId) : Option Nat := match P.underlying T with | some (.slice e) => (P.info? e).map (·.size) | _ => none
theorem run_fieldAt {P : Program} {T : TypeId} {k off b o : Nat} (h : foff P T k = some off) (w : World) : (Instr.fieldAt T (.pointer (some ⟨b, o, none⟩)) k).run P w = .ok (.pointer (some ⟨b, o + off, none⟩)) w := by
 unfold foff at h
 split at h
 ·rename_i fs hfs
  split at h
  ·rename_i f hf
   split at h
   ·rename_i i hi
    split at h
    ·cases h
    ·rename_i hz
     obtain rfl := Option.some.inj h
     simp [Instr.fieldAt, run_underlying hfs, hf, Instr.sureAddr, fieldPlace, sizeOf, typeInfo, hi, hz, addr_add]
   ·cases h
  ·cases h
 ·cases h
section
variable {S : Rg} {w : World}
theorem RelCs.field : ∀ {fs : List AV} {ds : List Value} (_ : RelCs S w fs ds) (k : Nat) (x : AV), fs[k]? = some x →
  ∃ cs, RelC S w x cs ∧ ∀ j v, cs[j]? = some v → ds[AV.sizes (fs.take k) + j]? = some v
 | [], _, _, _, _, h => by simp at h
 | y :: fs, ds, hr, k, x, h => by
  simp only [RelCs] at hr
  obtain ⟨c1, c2, rfl, h1, h2⟩ := hr
  cases k with
  | zero =>
   simp only [List.getElem?_cons_zero, Option.some.injEq] at h
   subst h
   refine ⟨c1, h1, fun j v hj => ?_⟩
   have hl : j < c1.length := (List.getElem?_eq_some_iff.1 hj).1
   simp only [List.take_zero, AV.sizes, Nat.zero_add]
   rw [List.getElem?_append_left hl]; exact hj
  | succ k =>
   obtain ⟨cs, hc, hj⟩ := RelCs.field h2 k x (by simpa using h)
   refine ⟨cs, hc, fun j v hv => ?_⟩
   have hs := RelC.size y c1 h1
   simp only [List.take_succ_cons, AV.sizes]
   rw [List.getElem?_append_right (by omega), hs]
   have := hj j v hv
   rwa [show y.size + AV.sizes (List.take k fs) + j - y.size = AV.sizes (List.take k fs) + j by omega]
theorem RelRow.elem : ∀ {xs : List AV} {sz b o : Nat} (_ : RelRow S w xs sz b o) (i : Nat) (x : AV), xs[i]? = some x →
  x.size = sz ∧ ∃ cs, RelC S w x cs ∧ ∀ j u, cs[j]? = some u → ¬ S b (o + i * sz + j) ∧ w.cell? ⟨b, o + i * sz + j, none⟩ = some u
 | [], _, _, _, _, _, _, h => by simp at h
 | y :: xs, sz, b, o, hr, i, x, h => by
  simp only [RelRow] at hr
  obtain ⟨⟨cs, h1, h2, h3⟩, h4⟩ := hr
  cases i with
  | zero =>
   simp only [List.getElem?_cons_zero, Option.some.injEq] at h
   subst h
   refine ⟨by rw [← RelC.size y cs h2, h1], cs, h2, fun j u hj => ?_⟩
   simpa using h3 j u hj
  | succ i =>
   obtain ⟨e, cs, hc, hj⟩ := RelRow.elem h4 i x (by simpa using h)
   refine ⟨e, cs, hc, fun j u hu => ?_⟩
   have := hj j u hu
   rwa [show o + sz + i * sz + j = o + (i + 1) * sz + j by rw [Nat.add_mul]; omega] at this
theorem RelRow.ne {xs : List AV} {i : Nat} {x : AV} (h : xs[i]? = some x) : xs ≠ [] := fun e => by subst e; simp at h
mutual
def AV.sub : AV → Nat → Bool → Nat → Option AV
 | .st fs, off, wst, n => bif wst && Nat.beq off 0 && Nat.beq n (AV.sizes fs) then some (.st fs) else AV.subs fs off wst n
 | x, off, wst, _ => bif !wst && Nat.beq off 0 && Nat.beq x.size 1 && !x.isAny then some x else none
def AV.subs : List AV → Nat → Bool → Nat → Option AV
 | [], _, _, _ => none
 | x :: xs, off, wst, n => bif Nat.blt off x.size then AV.sub x off wst n else AV.subs xs (off - x.size) wst n
end
theorem cond_some {α : Type} {b : Bool} {x y : α} (h : (bif b then some x else none) = some y) : b = true ∧ x = y := by
 cases b <;> simp at h; exact ⟨rfl, h⟩
theorem sub_leaf {x : AV} {cs : List Value} {off : Nat} {wst : Bool} {y : AV} (h : (bif !wst && Nat.beq off 0 && Nat.beq x.size 1 && !x.isAny then some x else none) = some y) (hr : RelC S w x cs) :
  y.isAny = false ∧ ∃ ds, RelC S w y ds ∧ ∀ j v, ds[j]? = some v → cs[off + j]? = some v := by
 obtain ⟨hb, rfl⟩ := cond_some h
 simp only [Bool.and_eq_true, nbeq_iff, Bool.not_eq_true'] at hb
 obtain ⟨⟨⟨_, rfl⟩, _⟩, ha⟩ := hb
 exact ⟨ha, cs, hr, fun j v hj => by simpa using hj⟩
mutual
theorem RelC.sub : ∀ (c : AV) (cs : List Value) (off : Nat) (wst : Bool) (n : Nat) (y : AV), RelC S w c cs → AV.sub c off wst n = some y →
  y.isAny = false ∧ ∃ ds, RelC S w y ds ∧ ∀ j v, ds[j]? = some v → cs[off + j]? = some v
 | .st fs, cs, off, wst, n, y, hr, h => by
  simp only [AV.sub] at h
  cases hb : wst && Nat.beq off 0 && Nat.beq n (AV.sizes fs) with
  | true =>
   rw [hb] at h
   simp only [cond_true, Option.some.injEq] at h
   subst h
   simp only [Bool.and_eq_true, nbeq_iff] at hb
   obtain ⟨⟨_, rfl⟩, _⟩ := hb
   exact ⟨rfl, cs, hr, fun j v hj => by simpa using hj⟩
  | false =>
   rw [hb] at h
   simp only [RelC] at hr
   exact RelCs.sub fs cs off wst n y hr h
 | .any, cs, off, wst, n, y, hr, h => sub_leaf (by simpa only [AV.sub] using h) hr
 | .int _ _, cs, off, wst, n, y, hr, h => sub_leaf (by simpa only [AV.sub] using h) hr
 | .bool _, cs, off, wst, n, y, hr, h => sub_leaf (by simpa only [AV.sub] using h) hr
 | .str _, cs, off, wst, n, y, hr, h => sub_leaf (by simpa only [AV.sub] using h) hr
 | .sl _, cs, off, wst, n, y, hr, h => sub_leaf (by simpa only [AV.sub] using h) hr
 | .slt _ _ _, cs, off, wst, n, y, hr, h => sub_leaf (by simpa only [AV.sub] using h) hr
 | .osl _ _ _, cs, off, wst, n, y, hr, h => sub_leaf (by simpa only [AV.sub] using h) hr
 | .at _, cs, off, wst, n, y, hr, h => sub_leaf (by simpa only [AV.sub] using h) hr
 | .ref _ _, cs, off, wst, n, y, hr, h => sub_leaf (by simpa only [AV.sub] using h) hr
 | .map _, cs, off, wst, n, y, hr, h => sub_leaf (by simpa only [AV.sub] using h) hr
 | .fn _ _, cs, off, wst, n, y, hr, h => sub_leaf (by simpa only [AV.sub] using h) hr
 | .yl _ _ _ _, cs, off, wst, n, y, hr, h => sub_leaf (by simpa only [AV.sub] using h) hr
 | .tup _, cs, off, wst, n, y, hr, h => sub_leaf (by simpa only [AV.sub] using h) hr
 | .val _, cs, off, wst, n, y, hr, h => sub_leaf (by simpa only [AV.sub] using h) hr
theorem RelCs.sub : ∀ (xs : List AV) (cs : List Value) (off : Nat) (wst : Bool) (n : Nat) (y : AV), RelCs S w xs cs → AV.subs xs off wst n = some y →
  y.isAny = false ∧ ∃ ds, RelC S w y ds ∧ ∀ j v, ds[j]? = some v → cs[off + j]? = some v
 | [], _, _, _, _, _, _, h => by simp [AV.subs] at h
 | x :: xs, cs, off, wst, n, y, hr, h => by
  simp only [RelCs] at hr
  obtain ⟨c1, c2, rfl, h1, h2⟩ := hr
  have hs := RelC.size x c1 h1
  simp only [AV.subs] at h
  cases hb : Nat.blt off x.size with
  | true =>
   rw [hb] at h
   obtain ⟨ha, ds, hd, hj⟩ := RelC.sub x c1 off wst n y h1 h
   refine ⟨ha, ds, hd, fun j v hv => ?_⟩
   have := hj j v hv
   have hl : off + j < c1.length := (List.getElem?_eq_some_iff.1 this).1
   rw [List.getElem?_append_left hl]; exact this
  | false =>
   rw [hb] at h
   have hge : x.size ≤ off := by
    rcases Nat.lt_or_ge off x.size with h' | h'
    ·have : Nat.blt off x.size = true := by simpa using h'
     rw [this] at hb; cases hb
    ·exact h'
   obtain ⟨ha, ds, hd, hj⟩ := RelCs.sub xs c2 (off - x.size) wst n y h2 h
   refine ⟨ha, ds, hd, fun j v hv => ?_⟩
   rw [List.getElem?_append_right (by omega), hs]
   have := hj j v hv
   rwa [show off + j - x.size = off - x.size + j by omega]
end
mutual
def AV.upd : AV → Nat → AV → Option AV
 | .st fs, off, x => bif x.isSt && Nat.beq off 0 && Nat.beq x.size (AV.sizes fs) then some x else (AV.upds fs off x).map .st
 | y, off, x => bif !x.isSt && Nat.beq off 0 && Nat.beq y.size x.size then some x else none
def AV.upds : List AV → Nat → AV → Option (List AV)
 | [], _, _ => none
 | y :: ys, off, x => bif Nat.blt off y.size then (AV.upd y off x).map (· :: ys) else (AV.upds ys (off - y.size) x).map (y :: ·)
end
def lay (cs : List Value) (off : Nat) (ds : List Value) : List Value := cs.take off ++ ds ++ cs.drop (off + ds.length)
theorem lay_zero {cs ds : List Value} (h : ds.length = cs.length) : lay cs 0 ds = ds := by simp [lay, h]
theorem upd_leaf {y : AV} {cs : List Value} {off : Nat} {x c' : AV} {ds : List Value} (h : (bif !x.isSt && Nat.beq off 0 && Nat.beq y.size x.size then some x else none) = some c') (hr : RelC S w y cs) (hx : RelC S w x ds) :
  RelC S w c' (lay cs off ds) ∧ off + ds.length ≤ cs.length := by
 obtain ⟨hb, rfl⟩ := cond_some h
 simp only [Bool.and_eq_true, nbeq_iff] at hb
 obtain ⟨⟨_, rfl⟩, hs⟩ := hb
 have h1 := RelC.size y cs hr
 have h2 := RelC.size x ds hx
 rw [lay_zero (by omega)]
 exact ⟨hx, by omega⟩
mutual
theorem RelC.upd : ∀ (c : AV) (cs : List Value) (off : Nat) (x c' : AV) (ds : List Value), RelC S w c cs → AV.upd c off x = some c' → RelC S w x ds → RelC S w c' (lay cs off ds) ∧ off + ds.length ≤ cs.length
 | .st fs, cs, off, x, c', ds, hr, h, hx => by
  simp only [AV.upd] at h
  cases hb : x.isSt && Nat.beq off 0 && Nat.beq x.size (AV.sizes fs) with
  | true =>
   rw [hb] at h
   simp only [cond_true, Option.some.injEq] at h
   subst h
   simp only [Bool.and_eq_true, nbeq_iff] at hb
   obtain ⟨⟨_, rfl⟩, hs⟩ := hb
   have h1 := RelC.size _ cs hr
   have h2 := RelC.size x ds hx
   simp only [AV.size] at h1
   rw [lay_zero (by omega)]
   exact ⟨hx, by omega⟩
  | false =>
   rw [hb] at h
   simp only [RelC] at hr
   simp only [cond_false, Option.map_eq_some_iff] at h
   obtain ⟨fs', h, rfl⟩ := h
   simpa only [RelC] using RelCs.upd fs cs off x fs' ds hr h hx
 | .any, cs, off, x, c', ds, hr, h, hx => upd_leaf (by simpa only [AV.upd] using h) hr hx
 | .int _ _, cs, off, x, c', ds, hr, h, hx => upd_leaf (by simpa only [AV.upd] using h) hr hx
 | .bool _, cs, off, x, c', ds, hr, h, hx => upd_leaf (by simpa only [AV.upd] using h) hr hx
 | .str _, cs, off, x, c', ds, hr, h, hx => upd_leaf (by simpa only [AV.upd] using h) hr hx
 | .sl _, cs, off, x, c', ds, hr, h, hx => upd_leaf (by simpa only [AV.upd] using h) hr hx
 | .slt _ _ _, cs, off, x, c', ds, hr, h, hx => upd_leaf (by simpa only [AV.upd] using h) hr hx
 | .osl _ _ _, cs, off, x, c', ds, hr, h, hx => upd_leaf (by simpa only [AV.upd] using h) hr hx
 | .at _, cs, off, x, c', ds, hr, h, hx => upd_leaf (by simpa only [AV.upd] using h) hr hx
 | .ref _ _, cs, off, x, c', ds, hr, h, hx => upd_leaf (by simpa only [AV.upd] using h) hr hx
 | .map _, cs, off, x, c', ds, hr, h, hx => upd_leaf (by simpa only [AV.upd] using h) hr hx
 | .fn _ _, cs, off, x, c', ds, hr, h, hx => upd_leaf (by simpa only [AV.upd] using h) hr hx
 | .yl _ _ _ _, cs, off, x, c', ds, hr, h, hx => upd_leaf (by simpa only [AV.upd] using h) hr hx
 | .tup _, cs, off, x, c', ds, hr, h, hx => upd_leaf (by simpa only [AV.upd] using h) hr hx
 | .val _, cs, off, x, c', ds, hr, h, hx => upd_leaf (by simpa only [AV.upd] using h) hr hx
theorem RelCs.upd : ∀ (ys : List AV) (cs : List Value) (off : Nat) (x : AV) (ys' : List AV) (ds : List Value), RelCs S w ys cs → AV.upds ys off x = some ys' → RelC S w x ds → RelCs S w ys' (lay cs off ds) ∧ off + ds.length ≤ cs.length
 | [], _, _, _, _, _, _, h, _ => by simp [AV.upds] at h
 | y :: ys, cs, off, x, ys', ds, hr, h, hx => by
  simp only [RelCs] at hr
  obtain ⟨c1, c2, rfl, h1, h2⟩ := hr
  have hs := RelC.size y c1 h1
  simp only [AV.upds] at h
  cases hb : Nat.blt off y.size with
  | true =>
   rw [hb] at h
   simp only [cond_true, Option.map_eq_some_iff] at h
   obtain ⟨y', h, rfl⟩ := h
   obtain ⟨hr', hl⟩ := RelC.upd y c1 off x y' ds h1 h hx
   refine ⟨?_, by simp; omega⟩
   simp only [RelCs]
   refine ⟨lay c1 off ds, c2, ?_, hr', h2⟩
   unfold lay
   rw [List.take_append_of_le_length (by omega), List.drop_append_of_le_length (by omega)]
   simp [List.append_assoc]
  | false =>
   rw [hb] at h
   have hge : y.size ≤ off := by
    rcases Nat.lt_or_ge off y.size with h' | h'
    ·have : Nat.blt off y.size = true := by simpa using h'
     rw [this] at hb; cases hb
    ·exact h'
   simp only [cond_false, Option.map_eq_some_iff] at h
   obtain ⟨zs, h, rfl⟩ := h
   obtain ⟨hr', hl⟩ := RelCs.upd ys c2 (off - y.size) x zs ds h2 h hx
   refine ⟨?_, by simp; omega⟩
   simp only [RelCs]
   refine ⟨c1, lay c2 (off - y.size) ds, ?_, h1, hr'⟩
   unfold lay
   rw [← hs, List.take_append, List.drop_append]
   have e1 : List.take off c1 = c1 := List.take_of_length_le (by omega)
   have e2 : List.drop (off + ds.length) c1 = [] := List.drop_eq_nil_of_le (by omega)
   rw [e1, e2, show off + ds.length - c1.length = off - c1.length + ds.length by omega]
   simp [List.append_assoc]
end
end
theorem mem_split {α : Type} {l : List α} {i : Nat} {x : α} (h : l[i]? = some x) : l = l.take i ++ x :: l.drop (i + 1) ∧ ∀ y, l.set i y = l.take i ++ y :: l.drop (i + 1) := by
 obtain ⟨hi, rfl⟩ := List.getElem?_eq_some_iff.1 h
 refine ⟨?_, fun y => List.set_eq_take_append_cons_drop .. |>.trans (by rw [if_pos hi])⟩
 rw [← List.drop_eq_getElem_cons hi, List.take_append_drop]
theorem St.update {Fr : Rg} {ah : AH} {w w' : World} (s : St Fr ah w) {i : Nat} {x x' : Own} (hi : ah[i]? = some x) (hx : Ext x.reg w w') (hblk : ∀ b, x'.blk = some b → x.blk = some b ∨ w.heap.size ≤ b)
  (hreg : ∀ b o, b < w.heap.size → x'.reg b o → x.reg b o) (hlt : ∀ b, x'.blk = some b → b < w'.heap.size) (hrel : Mv (Sof Fr ah) (Sof Fr (ah.set i x')) w w' → OwnRel (Sof Fr (ah.set i x')) w' x') :
  St Fr (ah.set i x') w' ∧ Ext (reg ah) w w' ∧ ∀ b o, b < w.heap.size → reg (ah.set i x') b o → reg ah b o := by
 obtain ⟨e1, e2⟩ := mem_split hi
 have e2 := e2 x'
 have hxm : x ∈ ah := List.mem_of_getElem? hi
 have hx' : Ext (reg ah) w w' := hx.mono fun b o h => ⟨x, hxm, h⟩
 have hmem : ∀ y, y ∈ ah.set i x' → y = x' ∨ (y ∈ ah ∧ ∀ b, y.blk = some b → x.blk ≠ some b) := by
  intro y hy
  rw [e2] at hy
  have hn := s.nodup
  rw [e1, List.filterMap_append, List.nodup_append] at hn
  rcases List.mem_append.1 hy with hy | hy
  ·refine .inr ⟨by rw [e1]; exact List.mem_append_left _ hy, fun b hb hxb => ?_⟩
   exact hn.2.2 b (List.mem_filterMap.2 ⟨y, hy, hb⟩) b (List.mem_filterMap.2 ⟨x, List.mem_cons_self, hxb⟩) rfl
  ·rcases List.mem_cons.1 hy with rfl | hy
   ·exact .inl rfl
   ·refine .inr ⟨by rw [e1]; exact List.mem_append_right _ (List.mem_cons_of_mem _ hy), fun b hb hxb => ?_⟩
    have h2 := hn.2.1
    rw [List.filterMap_cons, hxb] at h2
    simp only at h2
    exact (List.nodup_cons.1 h2).1 (List.mem_filterMap.2 ⟨y, hy, hb⟩)
 have hnew : ∀ b o, b < w.heap.size → reg (ah.set i x') b o → reg ah b o := by
  rintro b o hb ⟨y, hy, hr⟩
  rcases hmem y hy with rfl | ⟨hy', _⟩
  ·exact ⟨x, hxm, hreg b o hb hr⟩
  ·exact ⟨y, hy', hr⟩
 have m : Mv (Sof Fr ah) (Sof Fr (ah.set i x')) w w' := Mv.of_ext hx' (fun _ _ h => h) hnew
 refine ⟨⟨?_, ?_, ?_, ?_, ?_⟩, hx', hnew⟩
 ·have hn := s.nodup
  rw [e1] at hn
  rw [e2]
  rw [List.filterMap_append, List.nodup_append, List.filterMap_cons] at hn ⊢
  cases hb : x'.blk with
  | none =>
   simp only
   cases hxb : x.blk with
   | none => rw [hxb] at hn; exact hn
   | some b =>
    rw [hxb] at hn
    simp only at hn
    exact ⟨hn.1, (List.nodup_cons.1 hn.2.1).2, fun a ha c hc => hn.2.2 a ha c (List.mem_cons_of_mem _ hc)⟩
  | some b =>
   simp only
   rcases hblk b hb with hxb | hge
   ·rw [hxb] at hn; exact hn
   ·have hfar : ∀ y ∈ ah, y.blk ≠ some b := fun y hy e => by have := s.lt y hy b e; omega
    have h1 : b ∉ (ah.take i).filterMap Own.blk := fun h => by
     obtain ⟨y, hy, e⟩ := List.mem_filterMap.1 h
     exact hfar y (List.mem_of_mem_take hy) e
    have h2 : b ∉ (ah.drop (i + 1)).filterMap Own.blk := fun h => by
     obtain ⟨y, hy, e⟩ := List.mem_filterMap.1 h
     exact hfar y (List.mem_of_mem_drop hy) e
    have h3 : (List.filterMap Own.blk (List.drop (i + 1) ah)).Nodup ∧ ∀ a ∈ List.filterMap Own.blk (List.take i ah), ∀ c ∈ List.filterMap Own.blk (List.drop (i + 1) ah), a ≠ c := by
     cases hxb : x.blk with
     | none => rw [hxb] at hn; exact ⟨hn.2.1, hn.2.2⟩
     | some b' =>
      rw [hxb] at hn
      simp only at hn
      exact ⟨(List.nodup_cons.1 hn.2.1).2, fun a ha c hc => hn.2.2 a ha c (List.mem_cons_of_mem _ hc)⟩
    refine ⟨hn.1, List.nodup_cons.2 ⟨h2, h3.1⟩, fun a ha c hc => ?_⟩
    rcases List.mem_cons.1 hc with rfl | hc
    ·exact fun e => h1 (e ▸ ha)
    ·exact h3.2 a ha c hc
 ·intro y hy b hb
  rcases hmem y hy with rfl | ⟨hy', _⟩
  ·exact hlt b hb
  ·exact Nat.lt_of_lt_of_le (s.lt y hy' b hb) hx.size
 ·intro y hy b hb off hF
  rcases hmem y hy with rfl | ⟨hy', _⟩
  ·rcases hblk b hb with h | h
   ·exact s.fr x hxm b h off hF
   ·have := s.frlt b off hF; omega
  ·exact s.fr y hy' b hb off hF
 ·exact fun b o hF => Nat.lt_of_lt_of_le (s.frlt b o hF) hx.size
 ·intro y hy
  rcases hmem y hy with rfl | ⟨hy', hne⟩
  ·exact hrel m
  ·exact (s.rel y hy').mv m fun b hb => hx.blk b (s.lt y hy' b hb) fun o hr => hne b hb (reg_blk hr)
theorem Ext.alloc (R : Rg) (w : World) (o : Obj) : Ext R w (w.alloc o) :=
 ⟨rfl, rfl, rfl, by simp, fun b hb _ => Below.heap_alloc w o b hb, fun a v h _ => (World.cell?_alloc_lt w o a (cell_lt h)).trans h⟩
theorem St.grow {Fr : Rg} {ah : AH} {w w' : World} (s : St Fr ah w) (hx : Ext (fun _ _ => False) w w') : St Fr ah w' where
 nodup := s.nodup
 lt := fun o ho b hb => Nat.lt_of_lt_of_le (s.lt o ho b hb) hx.size
 fr := s.fr
 frlt := fun b o h => Nat.lt_of_lt_of_le (s.frlt b o h) hx.size
 rel := fun o ho => (s.rel o ho).mv (fun a v hc hs => ⟨hx.cell a v hc (fun h => h), hs⟩) fun b hb => hx.blk b (s.lt o ho b hb) fun _ h => h
theorem St.cons {Fr : Rg} {ah : AH} {w w' : World} (s : St Fr ah w) {x : Own} {b : Nat} (hb : x.blk = some b) (hge : w.heap.size ≤ b) (hlt : b < w'.heap.size) (hx : Ext (fun _ _ => False) w w')
  (hrel : Mv (Sof Fr ah) (Sof Fr (x :: ah)) w w' → OwnRel (Sof Fr (x :: ah)) w' x) : St Fr (x :: ah) w' ∧ Ext (reg ah) w w' ∧ ∀ b o, b < w.heap.size → reg (x :: ah) b o → reg ah b o := by
 have hnew : ∀ b o, b < w.heap.size → reg (x :: ah) b o → reg ah b o := by
  rintro k o hk ⟨y, hy, hr⟩
  rcases List.mem_cons.1 hy with rfl | hy
  ·have := reg_blk hr
   rw [hb] at this
   obtain rfl := Option.some.inj this
   omega
  ·exact ⟨y, hy, hr⟩
 have hx' : Ext (reg ah) w w' := hx.mono fun _ _ h => h.elim
 have m : Mv (Sof Fr ah) (Sof Fr (x :: ah)) w w' := Mv.of_ext hx' (fun _ _ h => h) hnew
 refine ⟨⟨?_, ?_, ?_, ?_, ?_⟩, hx', hnew⟩
 ·rw [List.filterMap_cons, hb]
  refine List.nodup_cons.2 ⟨fun h => ?_, s.nodup⟩
  obtain ⟨y, hy, e⟩ := List.mem_filterMap.1 h
  have := s.lt y hy b e
  omega
 ·intro y hy k hk
  rcases List.mem_cons.1 hy with rfl | hy
  ·rw [hb] at hk; obtain rfl := Option.some.inj hk; exact hlt
  ·exact Nat.lt_of_lt_of_le (s.lt y hy k hk) hx.size
 ·intro y hy k hk off hF
  rcases List.mem_cons.1 hy with rfl | hy
  ·rw [hb] at hk; obtain rfl := Option.some.inj hk; have := s.frlt b off hF; omega
  ·exact s.fr y hy k hk off hF
 ·exact fun k o hF => Nat.lt_of_lt_of_le (s.frlt k o hF) hx.size
 ·intro y hy
  rcases List.mem_cons.1 hy with rfl | hy
  ·exact hrel m
  ·exact (s.rel y hy).mv m fun k hk => hx.blk k (s.lt y hy k hk) fun _ h => h
def lenOf : AV → Option Int
 | .sl xs => some xs.length
 | .slt xs _ _ => some xs.length
 | .osl _ n _ => some n
 | .str s => some s.size
 | _ => none
def lenTy (P : Program) (T : TypeId) : Option Bool := match P.underlying T with | some .string => some true | some (.slice _) => some false | _ => none
def AV.isStr : AV → Bool | .str _ => true | _ => false
theorem run_store1 {P : Program} {w : World} {b o : Nat} {v : Value} {cs : Array Value} {t : TypeId} (hh : w.heap[b]? = some (.cells cs t (0, 0))) (ho : o < cs.size) (h1 : v.oneCell' = true) :
  (store ⟨b, o, none⟩ v).run P w = .ok () (w.setCell ⟨b, o, none⟩ v) := by
 rw [run_store _ _ _ _ _ h1]
 have hc : w.cell? ⟨b, o, none⟩ = some cs[o] := by rw [cell_of_row w b o cs t (0, 0) hh]; exact Array.getElem?_eq_getElem ho
 have hf : w.frozen? ⟨b, o, none⟩ = false := by simp [World.frozen?, hh]
 simp [hc, hf]
theorem heap_setCell_same {w : World} {b o : Nat} {v : Value} {cs : Array Value} {t : TypeId} (hh : w.heap[b]? = some (.cells cs t (0, 0))) :
  (w.setCell ⟨b, o, none⟩ v).heap[b]? = some (.cells (cs.setIfInBounds o v) t (0, 0)) := by
 simp [World.setCell, Array.getElem?_modify, hh]
theorem lay_cons {cs ds : List Value} {off : Nat} {d : Value} (h : off < cs.length) : lay (cs.set off d) (off + 1) ds = lay cs off (d :: ds) := by
 unfold lay
 rw [List.take_set, List.set_eq_take_append_cons_drop]
 have : off < (List.take (off + 1) cs).length := by simp; omega
 rw [if_pos this, List.take_take, Nat.min_eq_left (by omega), List.drop_set_of_lt (by omega), List.drop_eq_nil_of_le (by simp; omega)]
 simp [List.append_assoc, Nat.add_comm, Nat.add_left_comm]
theorem run_storeCells {P : Program} {b t : Nat} (o : Nat) : ∀ (ds : List Value) (i : Nat) (w : World) (cs : Array Value), w.heap[b]? = some (.cells cs t (0, 0)) → o + i + ds.length ≤ cs.size → (∀ v ∈ ds, v.oneCell' = true) →
  ∃ w', (storeCells ⟨b, o, none⟩ ds i).run P w = .ok () w' ∧ w'.heap[b]? = some (.cells (lay cs.toList (o + i) ds).toArray t (0, 0)) ∧ (∀ k, k ≠ b → w'.heap[k]? = w.heap[k]?) ∧ w'.heap.size = w.heap.size ∧
   w'.os = w.os ∧ w'.tape = w.tape ∧ w'.output = w.output
 | [], i, w, cs, hh, _, _ => ⟨w, by simp [storeCells], by simpa [lay] using hh, fun _ _ => rfl, rfl, rfl, rfl, rfl⟩
 | d :: ds, i, w, cs, hh, hl, h1 => by
  simp only [List.length_cons] at hl
  have hs := run_store1 (P := P) hh (o := o + i) (by omega) (h1 d (by simp))
  have hh' := heap_setCell_same (o := o + i) (v := d) hh
  obtain ⟨w', hr, hb, ho, hz, e1, e2, e3⟩ := run_storeCells (P := P) o ds (i + 1) _ _ hh' (by simp; omega) (fun v hv => h1 v (by simp [hv]))
  refine ⟨w', ?_, ?_, fun k hk => (ho k hk).trans (Below.heap_setCell w _ _ k hk), hz.trans (by simp [World.setCell]), e1, e2, e3⟩
  ·unfold storeCells
   simp only [Sem.run_bind, addr_add, hs, Result.andThen_ok]
   exact hr
  ·rw [hb]
   simp only [Array.toList_setIfInBounds]
   rw [← Nat.add_assoc, lay_cons (by simpa using by omega)]
mutual
def AV.cellOK : AV → Bool
 | .any => false
 | .tup _ => false
 | .val v => v.oneCell'
 | .st fs => AV.cellsOK fs
 | _ => true
def AV.cellsOK : List AV → Bool
 | [] => true
 | x :: xs => AV.cellOK x && AV.cellsOK xs
end
section
variable {S : Rg} {w : World}
mutual
theorem RelC.cellOK : ∀ (x : AV) (cs : List Value), RelC S w x cs → x.cellOK = true → ∀ v ∈ cs, v.oneCell' = true
 | .any, _, _, h => by simp [AV.cellOK] at h
 | .tup _, _, _, h => by simp [AV.cellOK] at h
 | .int _ _, cs, h, _ => by simp only [RelC] at h; subst h; simp [Value.oneCell']
 | .bool _, cs, h, _ => by simp only [RelC] at h; subst h; simp [Value.oneCell']
 | .str _, cs, h, _ => by simp only [RelC] at h; subst h; simp [Value.oneCell']
 | .st fs, cs, h, k => by simp only [RelC] at h; simp only [AV.cellOK] at k; exact RelCs.cellOK fs cs h k
 | .sl xs, cs, h, _ => by simp only [RelC] at h; obtain ⟨A, c, rfl, _⟩ := h; simp [Value.oneCell']
 | .slt xs b cap, cs, h, _ => by simp only [RelC] at h; obtain ⟨rfl, _⟩ := h; simp [Value.oneCell']
 | .osl _ _ _, cs, h, _ => by simp only [RelC] at h; obtain ⟨rfl, _⟩ := h; simp [Value.oneCell']
 | .at d, cs, h, _ => by simp only [RelC] at h; obtain ⟨b, o, ds, rfl, _⟩ := h; simp [Value.oneCell']
 | .ref _ _, cs, h, _ => by simp only [RelC] at h; subst h; simp [Value.oneCell']
 | .map _, cs, h, _ => by simp only [RelC] at h; subst h; simp [Value.oneCell']
 | .fn _ caps, cs, h, _ => by simp only [RelC] at h; obtain ⟨vs, rfl, _⟩ := h; simp [Value.oneCell']
 | .yl _ _ _ _, cs, h, _ => by simp only [RelC] at h; obtain ⟨rfl, _⟩ := h; simp [Value.oneCell']
 | .val v, cs, h, k => by
  simp only [RelC] at h; subst h
  simp only [AV.cellOK] at k
  cases v <;> simp_all [Value.oneCell', Value.cells]
theorem RelCs.cellOK : ∀ (xs : List AV) (cs : List Value), RelCs S w xs cs → AV.cellsOK xs = true → ∀ v ∈ cs, v.oneCell' = true
 | [], cs, h, _ => by simp only [RelCs] at h; subst h; simp
 | x :: xs, cs, h, k => by
  simp only [RelCs] at h
  obtain ⟨c1, c2, rfl, h2, h3⟩ := h
  simp only [AV.cellsOK, Bool.and_eq_true] at k
  intro v hv
  rcases List.mem_append.1 hv with hv | hv
  ·exact RelC.cellOK x c1 h2 k.1 v hv
  ·exact RelCs.cellOK xs c2 h3 k.2 v hv
end
end
theorem run_storeVar {P : Program} {S : Rg} {w : World} {T : TypeId} {b o t : Nat} {x : AV} {u : Value} {cs : Array Value} {g : Bool} (ht : tkind P T = some (g, x.size)) (hr : Rel S w x u) (hok : x.cellOK = true)
  (hh : w.heap[b]? = some (.cells cs t (0, 0))) (hl : o + x.size ≤ cs.size) :
  ∃ w', (storeVar T ⟨b, o, none⟩ u).run P w = .ok () w' ∧ w'.heap[b]? = some (.cells (lay cs.toList o u.cells.toList).toArray t (0, 0)) ∧ Ext (fun b' _ => b' = b) w w' := by
 have hs : u.cells.size = x.size := by have := RelC.size x _ hr.1; simpa using this
 obtain ⟨w', h1, h2, h3, h4, e1, e2, e3⟩ := run_storeCells (P := P) (b := b) (t := t) o u.cells.toList 0 w cs hh (by simp; omega) (RelC.cellOK x _ hr.1 hok)
 refine ⟨w', ?_, h2, e1, e2, e3, by omega, fun k _ hk => h3 k (fun e => hk 0 e), fun a v hc hk => (World.cell?_of_block (h3 a.block (fun e => hk e))).trans hc⟩
 unfold storeVar
 simp only [Sem.run_bind, run_sizeOf ht, Result.andThen_ok]
 rw [if_neg (by simp [hs])]
 exact h1
section
variable {P : Program} {af : AF} {ah : AH}
variable {d : Option Tmp} {T : TypeId} {ps : String} {es : Array Edge} {gd : Option (Nat × Bool)}
theorem AOp.field_at {x : Operand} {fs : List AV} {y : AV} {t : TypeId} {k off : Nat} (hx : aeval af x = some (.at (.st fs))) (hk : fs[k]? = some y) (hf : foff P t k = some off) (ho : AV.sizes (fs.take k) = off) :
  AOp P ⟨d, .fieldAddr t x k, T, ps, es, gd⟩ af ah (D (.at y) ah) :=
 AOp.of_pure fun S a w hfr _ => by
  obtain ⟨b, o, ds, hu, hr, hc⟩ := (aeval_rel hfr hx).at
  simp only [RelC] at hr
  obtain ⟨cs, h1, h2⟩ := hr.field k y hk
  refine ⟨.pointer (some ⟨b, o + off, none⟩), by simp [execOp, hu, run_fieldAt hf], ?_, by simp [Shape]⟩
  simp only [RelC, Value.cells]
  refine ⟨b, o + off, cs, rfl, h1, fun j v hj => ?_⟩
  have := hc _ _ (h2 j v hj)
  rwa [ho, ← Nat.add_assoc] at this
theorem AOp.field_ref {x : Operand} {b o : Nat} {t : TypeId} {k off : Nat} (hx : aeval af x = some (.ref b o)) (hf : foff P t k = some off) :
  AOp P ⟨d, .fieldAddr t x k, T, ps, es, gd⟩ af ah (D (.ref b (o + off)) ah) :=
 AOp.of_pure fun S a w hfr _ => ⟨_, by simp [execOp, (aeval_rel hfr hx).ref, run_fieldAt hf], mk_ref⟩
theorem run_indexAt {t : TypeId} {A : Addr} {n c sz : Nat} {k : IntKind} {i : Int} (he : esize P t = some sz) (h0 : 0 ≤ i) (h1 : i < n) (w : World) :
  (Instr.indexAt t (.slice (some A) n c) (.int k i)).run P w = .ok (.pointer (some (A.add (i.toNat * sz)))) w := by
 unfold esize at he
 split at he
 ·rename_i e hu
  cases hi : P.info? e with
  | none => simp [hi] at he
  | some inf =>
   simp only [hi, Option.map_some, Option.some.injEq] at he
   subst he
   simp [Instr.indexAt, asIntOf, run_underlying hu, h0, h1, sizeOf, typeInfo, hi]
 ·cases he
theorem AOp.index_sl {x y : Operand} {xs : List AV} {v : AV} {t : TypeId} {k : IntKind} {i : Int} {sz : Nat} (hx : aeval af x = some (.sl xs)) (hy : aeval af y = some (.int k i)) (h0 : 0 ≤ i) (hv : xs[i.toNat]? = some v)
  (he : esize P t = some sz) (hs : v.size = sz) : AOp P ⟨d, .indexAddr t x y, T, ps, es, gd⟩ af ah (D (.at v) ah) :=
 AOp.of_pure fun S a w hfr _ => by
  obtain ⟨A, c, hu, hl, hm, hrow⟩ := (aeval_rel hfr hx).sl
  obtain ⟨b, o, sz', rfl, hr⟩ := hrow (RelRow.ne hv)
  obtain ⟨e, cs, h1, h2⟩ := hr.elem _ _ hv
  have hlt : i.toNat < xs.length := (List.getElem?_eq_some_iff.1 hv).1
  refine ⟨_, by simp only [execOp, hu, (aeval_rel hfr hy).int, Sem.run_bind, run_indexAt he h0 (show i < (xs.length : Int) by omega), Result.andThen_ok]; simp; rfl, ?_, by simp [Shape]⟩
  rw [addr_add]
  simp only [RelC, Value.cells]
  refine ⟨b, o + i.toNat * sz, cs, rfl, h1, fun j u hj => ?_⟩
  have := h2 j u hj
  rwa [← e, hs] at this
theorem AOp.index_osl {x y : Operand} {b n c : Nat} {t : TypeId} {k : IntKind} {i : Int} (hx : aeval af x = some (.osl b n c)) (hy : aeval af y = some (.int k i)) (h0 : 0 ≤ i) (h1 : i < n)
  (he : esize P t = some 1) : AOp P ⟨d, .indexAddr t x y, T, ps, es, gd⟩ af ah (D (.ref b i.toNat) ah) :=
 AOp.of_pure fun S a w hfr _ => by
  obtain ⟨hu, _, _⟩ := (aeval_rel hfr hx).osl
  refine ⟨_, by simp only [execOp, hu, (aeval_rel hfr hy).int, Sem.run_bind, run_indexAt he h0 h1, Result.andThen_ok]; simp; rfl, ?_⟩
  rw [addr_add]
  simpa using mk_ref
theorem lenTy_str {t : TypeId} (h : lenTy P t = some true) : P.underlying t = some .string := by
 unfold lenTy at h; split at h <;> first | assumption | simp at h
theorem lenTy_sl {t : TypeId} (h : lenTy P t = some false) : ∃ e, P.underlying t = some (.slice e) := by
 unfold lenTy at h; split at h <;> first | exact ⟨_, ‹_›⟩ | simp at h
theorem AOp.len {x : Operand} {v : AV} {n : Int} {t : TypeId} (hx : aeval af x = some v) (hn : lenOf v = some n) (ht : lenTy P t = some v.isStr) :
  AOp P ⟨d, .call ⟨.builtin .len, #[x], #[t]⟩, T, ps, es, gd⟩ af ah (D (.int .i64 n) ah) :=
 AOp.of_pure fun S a w hfr _ => by
  refine ⟨.int .i64 n, ?_, mk_int⟩
  have hr := aeval_rel hfr hx
  cases v <;> simp only [lenOf] at hn <;> try cases hn
  ·have hu := hr.str
   simp [execOp, resolve, invoke, builtin, Builtin.len_, run_underlying (lenTy_str ht), hu, goInt]
  ·obtain ⟨A, c, hu, _⟩ := hr.sl
   obtain ⟨e, hk⟩ := lenTy_sl ht
   simp [execOp, resolve, invoke, builtin, Builtin.len_, run_underlying hk, hu, goInt]
  ·obtain ⟨hu, _⟩ := hr.slt
   obtain ⟨e, hk⟩ := lenTy_sl ht
   simp [execOp, resolve, invoke, builtin, Builtin.len_, run_underlying hk, hu, goInt]
  ·obtain ⟨hu, _⟩ := hr.osl
   obtain ⟨e, hk⟩ := lenTy_sl ht
   simp [execOp, resolve, invoke, builtin, Builtin.len_, run_underlying hk, hu, goInt]
theorem AOp.box_ro {x : Operand} {v : AV} {t : TypeId} (hx : aeval af x = some v) (hv : v.isAny = false) : AOp P ⟨d, .box t x, T, ps, es, gd⟩ af ah (D (.at v) ah) := .mk fun Fr a w hst hf => by
 have hr := aeval_rel hf hx
 have hrun : (execOp a.eval ⟨d, .box t x, T, ps, es, gd⟩).run P w = .ok (.value (.pointer (some ⟨w.heap.size, 0, none⟩))) (w.alloc (.cells (a.eval x).cells t)) := by
  simp [execOp, Instr.box, newVar, newRow, newObj, Sem.run]
 rw [hrun]
 have hx' : Ext (fun _ _ => False) w (w.alloc (.cells (a.eval x).cells t)) := Ext.alloc _ _ _
 have hst' := hst.grow hx'
 refine ⟨_, _, ⟨rfl, rfl⟩, ⟨_, rfl, ?_, by simp [Shape]⟩, hst', hx'.mono (fun _ _ h => h.elim), fun _ _ _ h => h⟩
 show RelC _ _ (.at v) [_]
 simp only [RelC]
 refine ⟨w.heap.size, 0, (a.eval x).cells.toList, rfl, RelC.mv (Mv.of_ext (Fr := Fr) (ah := ah) hx' (fun _ _ h => h.elim) (fun _ _ _ h => h)) _ _ hr.1, fun j u hj => ⟨?_, ?_⟩⟩
 ·rintro (h | ⟨y, hy, h⟩)
  ·have := hst.frlt _ _ h; omega
  ·have := hst.lt y hy _ (reg_blk h); omega
 ·rw [World.cell?_alloc_new]
  simpa using hj
theorem AOp.box {x : Operand} {v : AV} {t : TypeId} (hx : aeval af x = some v) (hv : v.isAny = false) :
  AOp P ⟨d, .box t x, T, ps, es, gd⟩ af ah (fun e h => ∃ b, e = .ret (.ref b 0) ∧ h = .box b v :: ah) := .mk fun Fr a w hst hf => by
 have hr := aeval_rel hf hx
 have hrun : (execOp a.eval ⟨d, .box t x, T, ps, es, gd⟩).run P w = .ok (.value (.pointer (some ⟨w.heap.size, 0, none⟩))) (w.alloc (.cells (a.eval x).cells t)) := by
  simp [execOp, Instr.box, newVar, newRow, newObj, Sem.run]
 rw [hrun]
 have hx' : Ext (fun _ _ => False) w (w.alloc (.cells (a.eval x).cells t)) := Ext.alloc _ _ _
 obtain ⟨h1, h2, h3⟩ := hst.cons (x := .box w.heap.size v) (b := w.heap.size) rfl (Nat.le_refl _) (by simp) hx' (fun m => ⟨_, t, heap_alloc_new w _, RelC.mv m _ _ hr.1⟩)
 exact ⟨_, _, ⟨_, rfl, rfl⟩, ⟨_, rfl, mk_ref⟩, h1, h2, h3⟩
theorem AOp.load_ref {x : Operand} {b off : Nat} {c v : AV} {t : TypeId} {i : Nat} (hx : aeval af x = some (.ref b off)) (hi : ah[i]? = some (.box b c)) (hs : c.sub off v.isSt v.size = some v) (ht : tkind P t = some (v.isSt, v.size)) :
  AOp P ⟨d, .load t x, T, ps, es, gd⟩ af ah (D v ah) :=
 AOp.of_pure fun S a w hf ho => by
  obtain ⟨cs, tt, hh, hr⟩ := ho _ (List.mem_of_getElem? hi)
  obtain ⟨ha, ds, hd, hj⟩ := RelC.sub c cs.toList off _ _ v hr hs
  obtain ⟨u, h1, h2⟩ := run_loadVar (P := P) (w := w) (b := b) (o := off) ha ht hd (fun j v hv => by rw [cell_of_row w b _ cs tt (0, 0) hh]; simpa using hj j v hv)
  exact ⟨u, by simp [execOp, (aeval_rel hf hx).ref, Instr.loadAt, Instr.sureAddr, h1], h2⟩
theorem AOp.load_row {x : Operand} {b off : Nat} {xs : List AV} {v : AV} {t : TypeId} {i : Nat} (hx : aeval af x = some (.ref b off)) (hi : ah[i]? = some (.row b xs)) (hs : xs[off]? = some v) (hv : v.isAny = false) (hz : v.size = 1)
  (ht : tkind P t = some (v.isSt, v.size)) : AOp P ⟨d, .load t x, T, ps, es, gd⟩ af ah (D v ah) :=
 AOp.of_pure fun S a w hf ho => by
  obtain ⟨cs, tt, hh, hr⟩ := ho _ (List.mem_of_getElem? hi)
  obtain ⟨c, hc, hd⟩ := hr off v hs
  obtain ⟨u, h1, h2⟩ := run_loadVar (P := P) (w := w) (b := b) (o := off) hv ht hd (fun j v hv => by
   rw [cell_of_row w b _ cs tt (0, 0) hh]
   cases j with
   | zero => simp only [List.getElem?_cons_zero, Option.some.injEq] at hv; subst hv; exact hc
   | succ j => simp at hv)
  exact ⟨u, by simp [execOp, (aeval_rel hf hx).ref, Instr.loadAt, Instr.sureAddr, h1], h2⟩
theorem AOp.store_box {x y : Operand} {b off : Nat} {c c' v : AV} {t : TypeId} {i : Nat} {g : Bool} (hx : aeval af x = some (.ref b off)) (hy : aeval af y = some v) (hi : ah[i]? = some (.box b c)) (hs : c.upd off v = some c') (hok : v.cellOK = true)
  (ht : tkind P t = some (g, v.size)) : AOp P ⟨d, .store t x y, T, ps, es, gd⟩ af ah (fun e h => (∃ u, e = .ret u) ∧ h = ah.set i (.box b c')) := .mk fun Fr a w hst hf => by
 have hr := aeval_rel hf hy
 obtain ⟨cs, tt, hh, hrc⟩ := hst.rel _ (List.mem_of_getElem? hi)
 obtain ⟨hu, hl⟩ := RelC.upd c cs.toList off v c' _ hrc hs hr.1
 have hsz := RelC.size v _ hr.1
 obtain ⟨w', h1, h2, h3⟩ := run_storeVar (P := P) (b := b) (o := off) ht hr hok hh (by simp at hl hsz; omega)
 have hrun : (execOp a.eval ⟨d, .store t x y, T, ps, es, gd⟩).run P w = .ok .skip w' := by
  simp [execOp, (aeval_rel hf hx).ref, Instr.storeAt, Instr.sureAddr, h1]
 rw [hrun]
 obtain ⟨k1, k2, k3⟩ := hst.update (x' := .box b c') hi h3 (fun k hk => .inl hk) (fun _ _ _ h => h)
  (fun k hk => by simp only [Own.blk, Option.some.injEq] at hk; subst hk; exact Nat.lt_of_lt_of_le (hst.lt _ (List.mem_of_getElem? hi) b rfl) h3.size) (fun m => ⟨_, tt, h2, by simpa using RelC.mv m _ _ hu⟩)
 exact ⟨.ret .any, _, ⟨⟨_, rfl⟩, rfl⟩, ⟨_, rfl, by simp [RelC, undef, Value.cells], by simp [Shape]⟩, k1, k2, k3⟩
end
section
variable {C : Cx} {ds : List Deferred} {ks : List K} {af : AF} {ah : AH} {ops : Array Oper} {rest : List Oper}
theorem AL.box {dd : Nat} {x : Operand} {v : AV} {t T : TypeId} {ps : String} {es : Array Edge} (hx : aeval af x = some v) (hv : v.isAny = false) (hn : Nat.blt dd C.n = true)
  (hk : ∀ b, AL C ds ks ops rest ((dd, .ref b 0) :: af) (.box b v :: ah)) : AL C ds ks ops (⟨some dd, .box t x, T, ps, es, none⟩ :: rest) af ah :=
 AL.step rfl hn (AOp.box hx hv) (by rintro _ _ ⟨b, e, rfl⟩; injection e with e; subst e; exact hk b) (by rintro _ _ ⟨b, e, _⟩; cases e)
theorem AL.store_box {x y : Operand} {b off : Nat} {c c' v : AV} {t T : TypeId} {i : Nat} {g : Bool} {ps : String} {es : Array Edge} (hx : aeval af x = some (.ref b off)) (hy : aeval af y = some v) (hi : ah[i]? = some (.box b c)) (hs : c.upd off v = some c') (hok : v.cellOK = true)
  (ht : tkind C.P t = some (g, v.size)) (hk : AL C ds ks ops rest af (ah.set i (.box b c'))) : AL C ds ks ops (⟨none, .store t x y, T, ps, es, none⟩ :: rest) af ah :=
 AL.step rfl rfl (AOp.store_box hx hy hi hs hok ht) (by rintro _ _ ⟨⟨u, e⟩, rfl⟩; exact hk) (by rintro _ _ ⟨⟨u, e⟩, _⟩; cases e)
end
def aevals (af : AF) : List Operand → Option (List AV)
 | [] => some []
 | x :: xs => match aeval af x, aevals af xs with | some v, some vs => some (v :: vs) | _, _ => none
theorem aevals_rel {S : Rg} {w : World} {af : AF} {a : Act} (h : AFRel S w af a) : ∀ {xs : List Operand} {vs : List AV}, aevals af xs = some vs → RelVs S w vs (xs.map a.eval)
 | [], vs, hx => by simp only [aevals, Option.some.injEq] at hx; subst hx; simp [RelVs]
 | x :: xs, vs, hx => by
  simp only [aevals] at hx
  split at hx
  ·rename_i v vs' hv hvs
   obtain rfl := Option.some.inj hx
   simp only [RelVs, List.map_cons]
   exact ⟨_, _, rfl, (aeval_rel h hv).1, (aeval_rel h hv).2, aevals_rel h hvs⟩
  ·cases hx
theorem RelVs.append {S : Rg} {w : World} : ∀ {xs : List AV} {us : List Value} {ys : List AV} {vs : List Value}, RelVs S w xs us → RelVs S w ys vs → RelVs S w (xs ++ ys) (us ++ vs)
 | [], us, ys, vs, h, k => by simp only [RelVs] at h; subst h; exact k
 | x :: xs, us, ys, vs, h, k => by
  simp only [RelVs] at h
  obtain ⟨u, us', rfl, h1, h2, h3⟩ := h
  simp only [List.cons_append, RelVs]
  exact ⟨u, us' ++ vs, rfl, h1, h2, RelVs.append h3 k⟩
theorem run_callFunc {P : Program} {f : FuncId} (h : Callable P f) (args : Array Value) (w : World) : (callFunc f args).run P w = .ok (.enter f args) w := by
 obtain ⟨fn, h1, h2, h3⟩ := h
 unfold callFunc
 simp only [Sem.run_bind, program, Sem.run, h1, Result.andThen_ok, h2, h3, Bool.false_eq_true, if_false, Sem.run_pure]
section
variable {P : Program} {af : AF} {ah : AH}
variable {d : Option Tmp} {T : TypeId} {ps : String} {es : Array Edge} {gd : Option (Nat × Bool)}
theorem AOp.call {f : FuncId} {y : Operand} {caps : List AV} {xs : Array Operand} {tys : Array TypeId} {args : List AV} {Φ : AEnd → AH → Prop} (hy : aeval af y = some (.fn f caps)) (hx : aevals af xs.toList = some args)
  (h : Tri P f (args ++ caps) ah Φ) : AOp P ⟨d, .call ⟨.value y, xs, tys⟩, T, ps, es, gd⟩ af ah Φ := .mk fun Fr a w hst hf => by
 obtain ⟨vs, hv, hc⟩ := (aeval_rel hf hy).fn
 have hr := aevals_rel hf hx
 have hrun : (execOp a.eval ⟨d, .call ⟨.value y, xs, tys⟩, T, ps, es, gd⟩).run P w = .ok (.enter f ((xs.toList.map a.eval ++ vs).toArray)) w := by
  simp only [execOp, resolve, hv, Deferred.ofValue, Sem.run_bind, Sem.run_pure, Result.andThen_ok, invoke]
  rw [run_callFunc h.1]
  congr 2
  apply Array.ext'
  simp
 rw [hrun]
 exact h.2 Fr w _ hst (hr.append hc)
theorem AOp.makeFunc {f : FuncId} {xs : Array Operand} {vs : List AV} (hx : aevals af xs.toList = some vs) : AOp P ⟨d, .makeFunc (.func f) #[] xs, T, ps, es, gd⟩ af ah (D (.fn f vs) ah) :=
 AOp.of_pure fun S a w hf _ => by
  refine ⟨_, by simp [execOp, Instr.makeFunc]; rfl, ?_, by simp [Shape]⟩
  simp only [RelC, Value.cells]
  exact ⟨xs.toList.map a.eval, by congr 2; apply Array.ext'; simp, aevals_rel hf hx⟩
theorem AOp.str_eq {x y : Operand} {s t : ByteArray} {xT yT : TypeId} (hx : aeval af x = some (.str s)) (hy : aeval af y = some (.str t)) : AOp P ⟨d, .binOp .eql xT x y yT, T, ps, es, gd⟩ af ah (D (.bool (s.toList == t.toList)) ah) :=
 AOp.of_pure fun S a w hf _ => ⟨.bool (s.toList == t.toList), by simp [execOp, (aeval_rel hf hx).str, (aeval_rel hf hy).str, eqGuard, binOp, Op.stringOp], mk_bool⟩
theorem AOp.str_ne {x y : Operand} {s t : ByteArray} {xT yT : TypeId} (hx : aeval af x = some (.str s)) (hy : aeval af y = some (.str t)) : AOp P ⟨d, .binOp .neq xT x y yT, T, ps, es, gd⟩ af ah (D (.bool (!(s.toList == t.toList))) ah) :=
 AOp.of_pure fun S a w hf _ => ⟨.bool (!(s.toList == t.toList)), by simp [execOp, (aeval_rel hf hx).str, (aeval_rel hf hy).str, eqGuard, binOp, Op.stringOp], mk_bool⟩
theorem AOp.str_lt {x y : Operand} {s t : ByteArray} {xT yT : TypeId} (hx : aeval af x = some (.str s)) (hy : aeval af y = some (.str t)) : AOp P ⟨d, .binOp .lss xT x y yT, T, ps, es, gd⟩ af ah (D (.bool (Op.bytesLess s.toList t.toList)) ah) :=
 AOp.of_pure fun S a w hf _ => ⟨.bool (Op.bytesLess s.toList t.toList), by simp [execOp, (aeval_rel hf hx).str, (aeval_rel hf hy).str, eqGuard, binOp, Op.stringOp], mk_bool⟩
theorem AOp.str_add {x y : Operand} {s t : ByteArray} {xT yT : TypeId} (hx : aeval af x = some (.str s)) (hy : aeval af y = some (.str t)) (h : s.size + t.size ≤ 9223372036854775807) :
  AOp P ⟨d, .binOp .add xT x y yT, T, ps, es, gd⟩ af ah (D (.str (s ++ t)) ah) :=
 AOp.of_pure fun S a w hf _ => ⟨.string (s ++ t), by
  simp [execOp, (aeval_rel hf hx).str, (aeval_rel hf hy).str, eqGuard, binOp, Op.stringOp]
  omega, mk_str⟩
theorem AOp.str_index {x y : Operand} {s : ByteArray} {k : IntKind} {i : Int} {t : TypeId} (ht : P.underlying t = some .string) (hx : aeval af x = some (.str s)) (hy : aeval af y = some (.int k i)) (h0 : 0 ≤ i) (h1 : i.toNat < s.size) :
  AOp P ⟨d, .index t x y, T, ps, es, gd⟩ af ah (D (.int .u8 (s[i.toNat]'h1).toNat) ah) :=
 AOp.of_pure fun S a w hf _ => ⟨.int .u8 (s[i.toNat]'h1).toNat, by
  have : s[i.toNat]? = some (s[i.toNat]'h1) := getElem?_pos s _ h1
  simp [execOp, (aeval_rel hf hx).str, (aeval_rel hf hy).int, Instr.index, asIntOf, run_underlying ht, h0, this], mk_int⟩
theorem run_equal_bool {t : TypeId} (ht : P.underlying t = some .bool) (a b : Bool) (w : World) : (Op.equal t (.bool a) (.bool b)).run P w = .ok (a == b) w := by
 have h : ∀ d : Nat, (Op.equalIn (d + 1) t (.bool a) (.bool b)).run P w = .ok (a == b) w := fun d => by simp [Op.equalIn, run_underlying ht]
 simp [Op.equal, Op.maxDepth, h 9999]
theorem AOp.bool_eq {x y : Operand} {p q : Bool} {xT yT : TypeId} (ht : P.underlying xT = some .bool) (hx : aeval af x = some (.bool p)) (hy : aeval af y = some (.bool q)) : AOp P ⟨d, .binOp .eql xT x y yT, T, ps, es, gd⟩ af ah (D (.bool (p == q)) ah) :=
 AOp.of_pure fun S a w hf _ => ⟨.bool (p == q), by
  simp only [execOp, (aeval_rel hf hx).bool, (aeval_rel hf hy).bool]
  simp [eqGuard, binOp, run_equal_bool ht], mk_bool⟩
theorem AOp.bool_ne {x y : Operand} {p q : Bool} {xT yT : TypeId} (ht : P.underlying xT = some .bool) (hx : aeval af x = some (.bool p)) (hy : aeval af y = some (.bool q)) : AOp P ⟨d, .binOp .neq xT x y yT, T, ps, es, gd⟩ af ah (D (.bool (!(p == q))) ah) :=
 AOp.of_pure fun S a w hf _ => ⟨.bool (!(p == q)), by
  simp only [execOp, (aeval_rel hf hx).bool, (aeval_rel hf hy).bool]
  simp [eqGuard, binOp, run_equal_bool ht], mk_bool⟩
theorem AOp.max2 {x y : Operand} {m n : Int} {k : IntKind} {tys : Array TypeId} (hx : aeval af x = some (.int k m)) (hy : aeval af y = some (.int k n)) : AOp P ⟨d, .call ⟨.builtin .max, #[x, y], tys⟩, T, ps, es, gd⟩ af ah (D (.int k (max m n)) ah) :=
 AOp.of_pure fun S a w hf _ => ⟨.int k (max m n), by
  have e : (if n > m then n else m) = max m n := by rw [Int.max_def]; split <;> split <;> omega
  simp [execOp, resolve, invoke, builtin, Builtin.max_, Builtin.max2, (aeval_rel hf hx).int, (aeval_rel hf hy).int]
  exact e, mk_int⟩
theorem AOp.min2 {x y : Operand} {m n : Int} {k : IntKind} {tys : Array TypeId} (hx : aeval af x = some (.int k m)) (hy : aeval af y = some (.int k n)) : AOp P ⟨d, .call ⟨.builtin .min, #[x, y], tys⟩, T, ps, es, gd⟩ af ah (D (.int k (min m n)) ah) :=
 AOp.of_pure fun S a w hf _ => ⟨.int k (min m n), by
  have e : (if n < m then n else m) = min m n := by rw [Int.min_def]; split <;> split <;> omega
  simp [execOp, resolve, invoke, builtin, Builtin.min_, Builtin.min2, (aeval_rel hf hx).int, (aeval_rel hf hy).int]
  exact e, mk_int⟩
end
mutual
def AV.flat : AV → Option (List Value)
 | .int k n => some [.int k n]
 | .bool b => some [.bool b]
 | .str s => some [.string s]
 | .sl [] => some [.slice none 0 0]
 | .st fs => AV.flats fs
 | .val v => some v.cells.toList
 | _ => none
def AV.flats : List AV → Option (List Value)
 | [] => some []
 | x :: xs => match AV.flat x, AV.flats xs with | some a, some b => some (a ++ b) | _, _ => none
end
mutual
theorem RelC.flat {S : Rg} {w : World} : ∀ (x : AV) (cs : List Value), AV.flat x = some cs → RelC S w x cs
 | .int k n, cs, h => by simp only [AV.flat, Option.some.injEq] at h; subst h; simp [RelC]
 | .bool b, cs, h => by simp only [AV.flat, Option.some.injEq] at h; subst h; simp [RelC]
 | .str s, cs, h => by simp only [AV.flat, Option.some.injEq] at h; subst h; simp [RelC]
 | .sl [], cs, h => by simp only [AV.flat, Option.some.injEq] at h; subst h; simp only [RelC]; exact ⟨none, 0, rfl, by simp, by simp [maxLen], by simp⟩
 | .sl (_ :: _), cs, h => by simp [AV.flat] at h
 | .st fs, cs, h => by simp only [AV.flat] at h; simp only [RelC]; exact RelCs.flat fs cs h
 | .val v, cs, h => by simp only [AV.flat, Option.some.injEq] at h; subst h; simp [RelC]
 | .any, cs, h => by simp [AV.flat] at h
 | .slt _ _ _, cs, h => by simp [AV.flat] at h
 | .osl _ _ _, cs, h => by simp [AV.flat] at h
 | .at _, cs, h => by simp [AV.flat] at h
 | .ref _ _, cs, h => by simp [AV.flat] at h
 | .map _, cs, h => by simp [AV.flat] at h
 | .fn _ _, cs, h => by simp [AV.flat] at h
 | .yl _ _ _ _, cs, h => by simp [AV.flat] at h
 | .tup _, cs, h => by simp [AV.flat] at h
theorem RelCs.flat {S : Rg} {w : World} : ∀ (xs : List AV) (cs : List Value), AV.flats xs = some cs → RelCs S w xs cs
 | [], cs, h => by simp only [AV.flats, Option.some.injEq] at h; subst h; simp [RelCs]
 | x :: xs, cs, h => by
  simp only [AV.flats] at h
  split at h
  ·rename_i a b ha hb
   obtain rfl := Option.some.inj h
   simp only [RelCs]
   exact ⟨a, b, rfl, RelC.flat x a ha, RelCs.flat xs b hb⟩
  ·cases h
end
theorem foldl_set : ∀ (vs : List Value) (k off : Nat) (cells : Array Value), off + k + vs.length ≤ cells.size →
  (((vs.zipIdx k).foldl (fun cs (x : Value × Nat) => cs.setIfInBounds (off + x.2) x.1) cells) : Array Value) = (lay cells.toList (off + k) vs).toArray
 | [], k, off, cells, _ => by simp [lay]
 | v :: vs, k, off, cells, h => by
  simp only [List.length_cons] at h
  rw [List.zipIdx_cons, List.foldl_cons, foldl_set vs (k + 1) off _ (by simp; omega)]
  simp only [Array.toList_setIfInBounds]
  rw [← Nat.add_assoc, lay_cons (by simpa using by omega)]
theorem fill_step {place : Nat → Option (Nat × Nat)} {cells : Array Value} {i off sz : Nat} {v : Value} {rest : List (Nat × Value)} (hp : place i = some (off, sz)) (hs : v.cells.size = sz) (hl : off + sz ≤ cells.size) :
  Instr.fill place cells ((i, v) :: rest) = Instr.fill place (lay cells.toList off v.cells.toList).toArray rest := by
 rw [Instr.fill]
 simp only [hp]
 rw [if_neg (by simp; omega)]
 congr 1
 have := foldl_set v.cells.toList 0 off cells (by simp; omega)
 rw [← Array.foldl_toList, Array.toList_zipIdx]
 exact this
def buildAV (places : List (Nat × Nat)) : AV → List (Nat × AV) → Option AV
 | c, [] => some c
 | c, (i, x) :: rest => match places[i]? with
  | some (off, sz) => bif Nat.beq x.size sz then (match AV.upd c off x with | some c' => buildAV places c' rest | none => none) else none
  | none => none
theorem fill_build {S : Rg} {w : World} {places : List (Nat × Nat)} {place : Nat → Option (Nat × Nat)} (hp : ∀ i p, places[i]? = some p → place i = some p) : ∀ (parts : List (Nat × AV)) (vs : List (Nat × Value)) (c c' : AV) (cells : Array Value),
  parts.map (·.1) = vs.map (·.1) → (∀ (j : Nat) p q, parts[j]? = some p → vs[j]? = some q → Rel S w p.2 q.2) → RelC S w c cells.toList → buildAV places c parts = some c' → ∃ cells', Instr.fill place cells vs = some cells' ∧ RelC S w c' cells'.toList
 | [], vs, c, c', cells, he, _, hr, hb => by
  simp only [buildAV, Option.some.injEq] at hb
  subst hb
  have : vs = [] := by cases vs <;> simp at he; rfl
  subst this
  exact ⟨cells, rfl, hr⟩
 | (i, x) :: parts, vs, c, c', cells, he, hv, hr, hb => by
  match vs, he with
  | (j, v) :: vs, he =>
   simp only [List.map_cons, List.cons.injEq] at he
   obtain ⟨rfl, he⟩ := he
   simp only [buildAV] at hb
   split at hb
   ·rename_i off sz hpl
    cases hz : Nat.beq x.size sz with
    | false => rw [hz] at hb; cases hb
    | true =>
     rw [hz] at hb
     simp only [cond_true] at hb
     split at hb
     ·rename_i c1 hu
      have hx := hv 0 (i, x) (i, v) rfl rfl
      obtain ⟨h1, h2⟩ := RelC.upd c cells.toList off x c1 _ hr hu hx.1
      have hsz := RelC.size x _ hx.1
      have e := nbeq_iff.1 hz
      rw [fill_step (hp i _ hpl) (by simpa [e] using hsz) (by simp at h2 hsz; omega)]
      exact fill_build hp parts vs c1 c' _ he (fun k p q h h' => hv (k + 1) p q (by simpa using h) (by simpa using h')) (by simpa using h1) hb
     ·cases hb
   ·cases hb
def stTy (P : Program) (T : TypeId) : Option (List (Nat × Nat) × List Value) :=
 match P.underlying T, P.info? T with
 | some (.struct fs), some i => match fs.toList.mapM (fun f => (P.info? f.type).map fun j => (f.offset, j.size)), i.zero with
  | some l, some z => some (l, z.cells.toList)
  | _, _ => none
 | _, _ => none
theorem run_places {P : Program} : ∀ (fs : List Field) (l : List (Nat × Nat)) (w : World), fs.mapM (fun f => (P.info? f.type).map fun j => (f.offset, j.size)) = some l →
  (fs.mapM (m := Sem) fun f => do pure (f.offset, ← sizeOf f.type)).run P w = .ok l w
 | [], l, w, h => by simp at h; subst h; simp
 | f :: fs, l, w, h => by
  rw [List.mapM_cons] at h
  cases hi : P.info? f.type with
  | none => simp [hi] at h
  | some i =>
   simp only [hi, Option.map_some, Option.bind_eq_bind, Option.bind_some] at h
   cases hm : fs.mapM (fun f => (P.info? f.type).map fun j => (f.offset, j.size)) with
   | none => simp [hm] at h
   | some l' =>
    simp only [hm, Option.bind_some] at h
    obtain rfl := Option.some.inj h
    rw [List.mapM_cons]
    have hs : (sizeOf f.type).run P w = .ok i.size w := by simp [sizeOf, typeInfo, hi]
    simp only [Sem.run_bind, hs, Sem.run_pure, Result.andThen_ok, run_places fs l' w hm]
def aparts (af : AF) : List (Nat × Operand) → Option (List (Nat × AV))
 | [] => some []
 | (i, x) :: xs => match aeval af x, aparts af xs with | some v, some vs => some ((i, v) :: vs) | _, _ => none
theorem aparts_rel {S : Rg} {w : World} {af : AF} {a : Act} (h : AFRel S w af a) : ∀ {xs : List (Nat × Operand)} {vs : List (Nat × AV)}, aparts af xs = some vs →
  vs.map (·.1) = (xs.map fun (i, x) => (i, a.eval x)).map (·.1) ∧ ∀ (j : Nat) p q, vs[j]? = some p → (xs.map fun (i, x) => (i, a.eval x))[j]? = some q → Rel S w p.2 q.2
 | [], vs, hx => by simp only [aparts, Option.some.injEq] at hx; subst hx; simp
 | (i, x) :: xs, vs, hx => by
  simp only [aparts] at hx
  split at hx
  ·rename_i v vs' hv hvs
   obtain rfl := Option.some.inj hx
   obtain ⟨h1, h2⟩ := aparts_rel h hvs
   refine ⟨by simp [h1], fun j p q hp hq => ?_⟩
   cases j with
   | zero => simp at hp hq; subst hp; subst hq; exact aeval_rel h hv
   | succ j => exact h2 j p q (by simpa using hp) (by simpa using hq)
  ·cases hx
section
variable {P : Program} {af : AF} {ah : AH}
variable {d : Option Tmp} {T : TypeId} {ps : String} {es : Array Edge} {gd : Option (Nat × Bool)}
theorem AOp.build {t : TypeId} {parts : Array (Nat × Operand)} {pl : List (Nat × Nat)} {zc : List Value} {z : AV} {vs : List (Nat × AV)} {fs : List AV} (ht : stTy P t = some (pl, zc)) (hz : z.flat = some zc) (hx : aparts af parts.toList = some vs)
  (hb : buildAV pl z vs = some (.st fs)) : AOp P ⟨d, .build t parts, T, ps, es, gd⟩ af ah (D (.st fs) ah) :=
 AOp.of_pure fun S a w hf _ => by
  unfold stTy at ht
  split at ht
  ·rename_i fields i hu hi
   split at ht
   ·rename_i l zv hl hzv
    simp only [Option.some.injEq, Prod.mk.injEq] at ht
    obtain ⟨rfl, rfl⟩ := ht
    obtain ⟨h1, h2⟩ := aparts_rel hf hx
    obtain ⟨cells', hfill, hr⟩ := fill_build (S := S) (w := w) (places := l) (place := (l.toArray[·]?)) (fun i p h => by simpa using h) vs _ z (.st fs) zv.cells h1 h2 (RelC.flat z _ hz) hb
    refine ⟨.agg cells', ?_, by simpa [Value.cells] using hr, by simp [Shape]⟩
    have hpl : (fields.mapM (m := Sem) fun f => do Pure.pure (f.offset, ← sizeOf f.type)).run P w = .ok l.toArray w := by
     rw [Array.mapM_eq_mapM_toList]
     simp only [Sem.run_map, run_places fields.toList l w hl, Result.andThen_ok]
    have hpa : (Array.map (fun x : Nat × Operand => (x.1, a.eval x.2)) parts).toList = parts.toList.map fun (i, x) => (i, a.eval x) := by simp
    simp only [execOp, Instr.build, zeroValue, typeInfo, program, Sem.run_bind, Sem.run, hi, hzv, Sem.run_pure, Result.andThen_ok, run_underlying hu, hpl]
    rw [hpa, hfill]
    simp
   ·cases ht
  ·cases ht
end
def dstOf (ops : Array Oper) (i : Nat) : Option Tmp := (ops[i]?).bind (·.dst)
def tmpsOf : List Operand → List Nat
 | [] => []
 | .tmp t :: r => t :: tmpsOf r
 | _ :: r => tmpsOf r
def oslots (ops : Array Oper) (o : Oper) : List Nat := tmpsOf o.op.operands.toList ++ (match o.guard with | some (g, _) => (dstOf ops g).toList | none => [])
def clB (ops : Array Oper) : Nat → Nat → Nat → Bool
 | 0, _, _ => false
 | f + 1, j, i => match ops[j]? with
  | some o => o.after.toList.any fun e => Region.binds .any e && (Nat.beq e.on i || clB ops f e.on i)
  | none => false
def memN (i : Nat) : List Nat → Bool
 | [] => false
 | j :: r => Nat.beq j i || memN i r
def sameDst : Option Tmp → Option Tmp → Bool
 | some a, some b => Nat.beq a b
 | _, _ => false
def dstIn : Option Tmp → List Nat → Bool
 | some a, l => memN a l
 | none, _ => false
def clash (ops : Array Oper) (i j : Nat) : Bool :=
 match ops[i]?, ops[j]? with
 | some a, some b => sameDst a.dst b.dst || dstIn a.dst (oslots ops b) || dstIn b.dst (oslots ops a)
 | _, _ => false
def drawOK (ops : Array Oper) : Bool :=
 (List.range ops.size).all fun j => (match ops[j]? with | some o => o.after.toList.all fun e => !Region.binds .any e || Nat.blt e.on j | none => false) &&
  (List.range j).all fun i => !clash ops i j || clB ops ops.size j i
def lastOK (ops : Array Oper) (j : Nat) : Bool := (List.range j).all fun i => clB ops ops.size j i
theorem memN_iff {i : Nat} : ∀ {l : List Nat}, memN i l = true ↔ i ∈ l
 | [] => by simp [memN]
 | j :: r => by simp only [memN, Bool.or_eq_true, nbeq_iff, memN_iff, List.mem_cons]; constructor <;> rintro (h | h) <;> first | exact .inl h.symm | exact .inr h
section
variable {ops : Array Oper}
inductive Closed (ops : Array Oper) : List Nat → Prop
 | nil : Closed ops []
 | cons {x : Nat} {l : List Nat} {o : Oper} : Closed ops l → x ∉ l → ops[x]? = some o → (∀ e ∈ o.after, Region.binds .any e = true → e.on ∈ l) → Closed ops (x :: l)
theorem Closed.split {l : List Nat} (h : Closed ops l) {x : Nat} (hx : x ∈ l) : ∃ l1 l2, l = l1 ++ x :: l2 ∧ Closed ops (x :: l2) := by
 induction h with
 | nil => cases hx
 | cons hc hn ho he ih =>
  rcases List.mem_cons.1 hx with rfl | hx
  ·exact ⟨[], _, rfl, .cons hc hn ho he⟩
  ·obtain ⟨l1, l2, rfl, h⟩ := ih hx
   exact ⟨_ :: l1, l2, rfl, h⟩
theorem Closed.before {i : Nat} : ∀ (f : Nat) {x : Nat} {l : List Nat}, Closed ops (x :: l) → clB ops f x i = true → i ∈ l
 | 0, _, _, _, h => by simp [clB] at h
 | f + 1, x, l, hc, h => by
  cases hc with
  | cons hc hn ho he =>
   simp only [clB, ho, List.any_eq_true, Bool.and_eq_true, Bool.or_eq_true, nbeq_iff, Array.mem_toList_iff] at h
   obtain ⟨e, hem, hb, h⟩ := h
   have hel := he e hem hb
   rcases h with rfl | h
   ·exact hel
   ·obtain ⟨l1, l2, rfl, h2⟩ := hc.split hel
    exact List.mem_append_right _ (List.mem_cons_of_mem _ (Closed.before f h2 h))
def wr (ops : Array Oper) (s : Nat) : List Nat → Option Nat
 | [] => none
 | x :: l => if dstOf ops x = some s then some x else wr ops s l
theorem wr_some {s L : Nat} : ∀ {l : List Nat}, wr ops s l = some L → ∃ l1 l2, l = l1 ++ L :: l2 ∧ dstOf ops L = some s ∧ ∀ j ∈ l1, dstOf ops j ≠ some s
 | [], h => by simp [wr] at h
 | x :: l, h => by
  simp only [wr] at h
  by_cases e : dstOf ops x = some s
  ·rw [if_pos e] at h
   obtain rfl := Option.some.inj h
   exact ⟨[], l, rfl, e, by simp⟩
  ·rw [if_neg e] at h
   obtain ⟨l1, l2, rfl, h1, h2⟩ := wr_some h
   exact ⟨x :: l1, l2, rfl, h1, fun j hj => by rcases List.mem_cons.1 hj with rfl | hj; exact e; exact h2 j hj⟩
theorem wr_none {s : Nat} : ∀ {l : List Nat}, wr ops s l = none → ∀ j ∈ l, dstOf ops j ≠ some s
 | [], _, _, hj => by cases hj
 | x :: l, h, j, hj => by
  simp only [wr] at h
  by_cases e : dstOf ops x = some s
  ·rw [if_pos e] at h; cases h
  ·rw [if_neg e] at h
   rcases List.mem_cons.1 hj with rfl | hj
   ·exact e
   ·exact wr_none h j hj
def down : Nat → List Nat
 | 0 => []
 | n + 1 => n :: down n
theorem mem_down {i : Nat} : ∀ {n : Nat}, i ∈ down n ↔ i < n
 | 0 => by simp [down]
 | n + 1 => by simp only [down, List.mem_cons, mem_down]; omega
theorem drawOK_edge (h : drawOK ops = true) {j : Nat} {o : Oper} (ho : ops[j]? = some o) {e : Edge} (he : e ∈ o.after) (hb : Region.binds .any e = true) : e.on < j := by
 have hj : j < ops.size := (Array.getElem?_eq_some_iff.1 ho).1
 simp only [drawOK, List.all_eq_true, List.mem_range, Bool.and_eq_true] at h
 have := (h j hj).1
 simp only [ho, List.all_eq_true, Array.mem_toList_iff, Bool.or_eq_true, Bool.not_eq_true'] at this
 rcases this e he with h1 | h1
 ·rw [hb] at h1; cases h1
 ·simpa using h1
theorem drawOK_clash (h : drawOK ops = true) {i j : Nat} (hij : i < j) (hj : j < ops.size) (hc : clash ops i j = true) : clB ops ops.size j i = true := by
 simp only [drawOK, List.all_eq_true, List.mem_range, Bool.and_eq_true] at h
 have := (h j hj).2 i hij
 simpa [hc] using this
theorem clash_comm {i j : Nat} (h : clash ops i j = true) : clash ops j i = true := by
 unfold clash at h ⊢
 cases hi : ops[i]? <;> cases hj : ops[j]? <;> simp only [hi, hj] at h ⊢ <;> try cases h
 simp only [Bool.or_eq_true] at h ⊢
 have hs : ∀ a b : Option Tmp, sameDst a b = true → sameDst b a = true := fun a b h => by
  cases a <;> cases b <;> simp only [sameDst] at h ⊢ <;> try cases h
  exact nbeq_iff.2 (nbeq_iff.1 h).symm
 rcases h with (h | h) | h
 ·exact .inl (.inl (hs _ _ h))
 ·exact .inr h
 ·exact .inl (.inr h)
theorem clash_slot {i j : Nat} {o : Oper} {s : Nat} (ho : ops[i]? = some o) (hs : s ∈ oslots ops o) (hd : dstOf ops j = some s) : clash ops i j = true := by
 unfold dstOf at hd
 cases hj : ops[j]? with
 | none => simp [hj] at hd
 | some b =>
  simp only [hj, Option.bind_some] at hd
  unfold clash
  simp [ho, hj, hd, dstIn, memN_iff.2 hs]
theorem clash_dst {i j s : Nat} (hi : dstOf ops i = some s) (hj : dstOf ops j = some s) : clash ops i j = true := by
 unfold dstOf at hi hj
 cases ei : ops[i]? with
 | none => simp [ei] at hi
 | some a =>
  cases ej : ops[j]? with
  | none => simp [ej] at hj
  | some b =>
   simp only [ei, ej, Option.bind_some] at hi hj
   unfold clash
   simp [ei, ej, hi, hj, sameDst, Nat.beq_refl]
theorem dstOf_lt {i s : Nat} (h : dstOf ops i = some s) : i < ops.size := by
 unfold dstOf at h
 cases e : ops[i]? with
 | none => simp [e] at h
 | some o => exact (Array.getElem?_eq_some_iff.1 e).1
theorem later {l1 l2 : List Nat} {L j : Nat} (h : drawOK ops = true) (hc : Closed ops (l1 ++ L :: l2)) (hj : j ∈ l2) (hl : j < ops.size) (hL : L < ops.size) (hcl : clash ops L j = true) : j < L := by
 have hcL : Closed ops (L :: l2) := by
  clear hj
  induction l1 with
  | nil => exact hc
  | cons x l1 ih => cases hc with | cons hc _ _ _ => exact ih hc
 rcases Nat.lt_trichotomy j L with h1 | h1 | h1
 ·exact h1
 ·subst h1; cases hcL with | cons _ hn _ _ => exact absurd hj hn
 ·have := drawOK_clash h h1 hl hcl
  obtain ⟨m1, m2, rfl, h2⟩ := (show Closed ops l2 by cases hcL with | cons hc _ _ _ => exact hc).split hj
  have := Closed.before _ h2 this
  cases hcL with | cons _ hn _ _ => exact absurd (List.mem_append_right _ (List.mem_cons_of_mem _ this)) hn
theorem wr_text {l : List Nat} {i : Nat} {o : Oper} {s : Nat} (h : drawOK ops = true) (hc : Closed ops (i :: l)) (ho : ops[i]? = some o) (hs : s ∈ oslots ops o) : wr ops s l = wr ops s (down i) := by
 have hi : i < ops.size := (Array.getElem?_eq_some_iff.1 ho).1
 obtain ⟨hcl, hn⟩ : Closed ops l ∧ i ∉ l := by cases hc with | cons h1 h2 _ _ => exact ⟨h1, h2⟩
 have hin : ∀ j, j < i → dstOf ops j = some s → j ∈ l := fun j hj hd => Closed.before _ hc (drawOK_clash h hj hi (clash_comm (clash_slot ho hs hd)))
 have hout : ∀ j ∈ l, dstOf ops j = some s → j < i := fun j hj hd => by
  rcases Nat.lt_trichotomy j i with h1 | h1 | h1
  ·exact h1
  ·subst h1; exact absurd hj hn
  ·have := drawOK_clash h h1 (dstOf_lt hd) (clash_slot ho hs hd)
   obtain ⟨l1, l2, rfl, h2⟩ := hcl.split hj
   exact absurd (List.mem_append_right _ (List.mem_cons_of_mem _ (Closed.before _ h2 this))) hn
 cases hw : wr ops s l with
 | none =>
  cases ht : wr ops s (down i) with
  | none => rfl
  | some L =>
   obtain ⟨l1, l2, e, hd, _⟩ := wr_some ht
   have hL : L < i := mem_down.1 (by rw [e]; simp)
   exact absurd hd (wr_none hw L (hin L hL hd))
 | some L =>
  obtain ⟨l1, l2, e, hd, hl1⟩ := wr_some hw
  have hL : L < i := hout L (by rw [e]; simp) hd
  cases ht : wr ops s (down i) with
  | none => exact absurd hd (wr_none ht L (mem_down.2 hL))
  | some M =>
   obtain ⟨m1, m2, e', hd', hm1⟩ := wr_some ht
   have hM : M < i := mem_down.1 (by rw [e']; simp)
   have hMl := hin M hM hd'
   rcases Nat.lt_trichotomy L M with h1 | h1 | h1
   ·-- M later in the text: so the later one
    exfalso
    rw [e] at hMl
    rcases List.mem_append.1 hMl with hx | hx
    ·exact hl1 M hx hd'
    ·rcases List.mem_cons.1 hx with rfl | hx
     ·omega
     ·have := later h (e ▸ hcl) hx (dstOf_lt hd') (dstOf_lt hd) (clash_dst hd hd')
      omega
   ·rw [h1]
   ·exfalso
    have hLd : L ∈ down i := mem_down.2 hL
    rw [e'] at hLd
    rcases List.mem_append.1 hLd with hx | hx
    ·exact hm1 L hx hd
    ·rcases List.mem_cons.1 hx with rfl | hx
     ·omega
     ·have hlt : ∀ {n : Nat} {a b : List Nat} {y : Nat}, down n = a ++ y :: b → ∀ z ∈ b, z < y := by
       intro n
       induction n with
       | zero => intro a b y h; simp [down] at h
       | succ n ih =>
        intro a b y h z hz
        cases a with
        | nil => simp only [down, List.nil_append, List.cons.injEq] at h; obtain ⟨rfl, rfl⟩ := h; exact mem_down.1 hz
        | cons a0 a => simp only [down, List.cons_append, List.cons.injEq] at h; exact ih h.2 z hz
      have := hlt e' L hx
      omega
theorem wr_all {l : List Nat} {s : Nat} (h : drawOK ops = true) (hc : Closed ops l) (n : Nat) (hall : ∀ i, i < n → i ∈ l) (hlt : ∀ i ∈ l, i < n) : wr ops s l = wr ops s (down n) := by
 have hdown : ∀ {n : Nat} {a b : List Nat} {y : Nat}, down n = a ++ y :: b → ∀ z ∈ b, z < y := by
  intro n
  induction n with
  | zero => intro a b y h; simp [down] at h
  | succ n ih =>
   intro a b y h z hz
   cases a with
   | nil => simp only [down, List.nil_append, List.cons.injEq] at h; obtain ⟨rfl, rfl⟩ := h; exact mem_down.1 hz
   | cons a0 a => simp only [down, List.cons_append, List.cons.injEq] at h; exact ih h.2 z hz
 cases hw : wr ops s l with
 | none =>
  cases ht : wr ops s (down n) with
  | none => rfl
  | some L =>
   obtain ⟨l1, l2, e, hd, _⟩ := wr_some ht
   exact absurd hd (wr_none hw L (hall L (mem_down.1 (by rw [e]; simp))))
 | some L =>
  obtain ⟨l1, l2, e, hd, hl1⟩ := wr_some hw
  have hL : L < n := hlt L (by rw [e]; simp)
  cases ht : wr ops s (down n) with
  | none => exact absurd hd (wr_none ht L (mem_down.2 hL))
  | some M =>
   obtain ⟨m1, m2, e', hd', hm1⟩ := wr_some ht
   have hM : M < n := mem_down.1 (by rw [e']; simp)
   have hMl := hall M hM
   rcases Nat.lt_trichotomy L M with h1 | h1 | h1
   ·exfalso
    rw [e] at hMl
    rcases List.mem_append.1 hMl with hx | hx
    ·exact hl1 M hx hd'
    ·rcases List.mem_cons.1 hx with rfl | hx
     ·omega
     ·have := later h (e ▸ hc) hx (dstOf_lt hd') (dstOf_lt hd) (clash_dst hd hd')
      omega
   ·rw [h1]
   ·exfalso
    have hLd : L ∈ down n := mem_down.2 hL
    rw [e'] at hLd
    rcases List.mem_append.1 hLd with hx | hx
    ·exact hm1 L hx hd
    ·rcases List.mem_cons.1 hx with rfl | hx
     ·omega
     ·have := hdown e' L hx
      omega
end
def gdo (ops : Array Oper) (af : AF) (o : Oper) : Option Bool :=
 match o.guard with
 | none => some true
 | some (g, b) => match dstOf ops g with
  | some t => match get af t with
   | some (.bool c) => some (c == b)
   | some (.tup []) => some false
   | _ => none
  | none => none
def QStep (P : Program) (ops : Array Oper) (ah : AH) (o : Oper) (af : AF) (v : AV) : Prop :=
 (gdo ops (keep (oslots ops o) af) o = some true ∧ AOp P o (keep (oslots ops o) af) ah (D v ah)) ∨ (gdo ops (keep (oslots ops o) af) o = some false ∧ v = .tup [])
structure AQ (P : Program) (ops : Array Oper) (ah : AH) (rest : List Oper) (af : AF) (K : AF → Prop) : Prop where
 out : ∃ vs : List AV, vs.length = rest.length ∧ K ((rest.zip vs).foldl (fun f p => put f p.1.dst p.2) af) ∧
  ∀ i o v, rest[i]? = some o → vs[i]? = some v → QStep P ops ah o (((rest.zip vs).take i).foldl (fun f p => put f p.1.dst p.2) af) v
section
variable {P : Program} {ops : Array Oper} {ah : AH} {af : AF} {K : AF → Prop} {rest : List Oper} {o : Oper}
theorem AQ.nil (h : K af) : AQ P ops ah [] af K := ⟨[], rfl, h, by simp⟩
theorem AQ.cons {v : AV} (h : QStep P ops ah o af v) (k : AQ P ops ah rest (put af o.dst v) K) : AQ P ops ah (o :: rest) af K := by
 obtain ⟨vs, h1, h2, h3⟩ := k.out
 refine ⟨v :: vs, by simp [h1], by simpa using h2, fun i o' v' ho hv => ?_⟩
 cases i with
 | zero => simp at ho hv; subst ho; subst hv; simpa using h
 | succ i => simpa using h3 i o' v' (by simpa using ho) (by simpa using hv)
theorem AQ.op {v : AV} {d : Nat} {af' : AF} (hkp : keep (oslots ops o) af = af') (h : AOp P o af' ah (D v ah)) (hg : o.guard = none) (hd : o.dst = some d) (k : AQ P ops ah rest ((d, v) :: af) K) : AQ P ops ah (o :: rest) af K :=
 AQ.cons (.inl ⟨by simp [gdo, hg], hkp ▸ h⟩) (by rw [hd]; exact k)
theorem AQ.gop {v : AV} {d : Nat} {af' : AF} (hkp : keep (oslots ops o) af = af') (h : AOp P o af' ah (D v ah)) (hg : gdo ops af' o = some true) (hd : o.dst = some d) (k : AQ P ops ah rest ((d, v) :: af) K) : AQ P ops ah (o :: rest) af K :=
 AQ.cons (.inl ⟨hkp ▸ hg, hkp ▸ h⟩) (by rw [hd]; exact k)
theorem AQ.skip {d : Nat} {af' : AF} (hkp : keep (oslots ops o) af = af') (hg : gdo ops af' o = some false) (hd : o.dst = some d) (k : AQ P ops ah rest ((d, .tup []) :: af) K) : AQ P ops ah (o :: rest) af K :=
 AQ.cons (.inr ⟨hkp ▸ hg, rfl⟩) (by rw [hd]; exact k)
end
def frameOf (ops : Array Oper) (vs : List AV) (af : AF) : List Nat → AF
 | [] => af
 | x :: l => put (frameOf ops vs af l) (dstOf ops x) (vs.getD x .any)
theorem get_frameOf {ops : Array Oper} {vs : List AV} {af : AF} {s : Nat} : ∀ {l : List Nat}, get (frameOf ops vs af l) s = match wr ops s l with | some x => some (vs.getD x .any) | none => get af s
 | [] => rfl
 | x :: l => by
  simp only [frameOf, wr]
  cases hd : dstOf ops x with
  | none => simp only [put]; rw [if_neg (by simp)]; exact get_frameOf
  | some t =>
   simp only [put, get_cons]
   by_cases e : t = s
   ·subst e; rw [if_pos rfl, if_pos rfl]
   ·rw [if_neg e, if_neg (by simpa using e)]; exact get_frameOf
theorem frameOf_down {ops : Array Oper} {vs : List AV} {af : AF} : ∀ (n : Nat), n ≤ ops.size → n ≤ vs.length → frameOf ops vs af (down n) = ((ops.toList.zip vs).take n).foldl (fun f p => put f p.1.dst p.2) af
 | 0, _, _ => by simp [down, frameOf]
 | n + 1, h1, h2 => by
  simp only [down, frameOf]
  have hz : n < (ops.toList.zip vs).length := by simp; omega
  rw [frameOf_down n (by omega) (by omega), List.take_succ_eq_append_getElem hz, List.foldl_append]
  have h3 : n < ops.size := by omega
  have h4 : n < vs.length := by omega
  simp [dstOf, h3, h4]
theorem keep_congr {af af' : AF} : ∀ {is : List Nat}, (∀ i ∈ is, get af i = get af' i) → keep is af = keep is af'
 | [], _ => rfl
 | i :: is, h => by
  simp only [keep]
  rw [h i (by simp), keep_congr (fun j hj => h j (List.mem_cons_of_mem _ hj))]
theorem okDst_of {ops : Array Oper} {n : Nat} (h : ops.toList.all (fun o => okDst o.dst n) = true) {i : Nat} {o : Oper} (ho : ops[i]? = some o) : okDst o.dst n = true := by
 rw [List.all_eq_true] at h
 exact h o (Array.mem_toList_iff.2 (Array.mem_of_getElem? ho))
section
variable {C : Cx} {ds : List Deferred} {ks : List K} {af : AF} {ah : AH}
theorem quiet_one {ops : Array Oper} {i : Nat} {o : Oper} {v : AV} {a : Act} {w : World} {af0 af1 : AF} {K : Act → World → Prop} {Q : Exit → Act → World → Prop} (g : Good C ds af1 ah a w) (ho : ops[i]? = some o) (hd : okDst o.dst C.n = true)
  (hdt : ∀ t, t ∈ (match o.guard with | some (g, _) => (dstOf ops g).toList | none => []) → Nat.blt t C.n = true)
  (hk : keep (oslots ops o) af0 = keep (oslots ops o) af1) (hq : QStep C.P ops ah o af0 v) (hK : ∀ a w, Good C ds (put af1 o.dst v) ah a w → K a w) : wpOpIn (fz C.ro) 0 C.P ops Q i K a w := by
 have gk : AFRel (Sof C.Fr ah) w (keep (oslots ops o) af0) a := fun j u hj => g.fr j u (get_keep (hk ▸ hj))
 have hy : ∀ b, gdo ops (keep (oslots ops o) af0) o = some b → Region.wanted o (yielded ops a.tmps) = b := by
  intro b hb
  unfold gdo at hb
  unfold Region.wanted
  cases hg : o.guard with
  | none => simp only [hg, Option.some.injEq] at hb; simpa using hb
  | some p =>
   obtain ⟨gi, want⟩ := p
   simp only [hg] at hb
   split at hb
   ·rename_i t ht
    split at hb
    ·rename_i c hc
     have hyy := yielded_of (C := C) (ops := ops) (g := gi) gk g.size ht (hdt t (by simp [hg, ht])) hc
     simp only [Option.some.injEq] at hb
     simp only [hyy]
     rw [← hb]
     cases c <;> cases want <;> rfl
    ·rename_i hc
     have hyy := yielded_undef (ops := ops) (g := gi) gk ht hc
     simp only [Option.some.injEq] at hb
     simp only [hyy, ← hb]
     cases want <;> rfl
    ·cases hb
   ·cases hb
 unfold wpOpIn
 simp only [ho]
 rcases hq with ⟨hg, hop⟩ | ⟨hg, rfl⟩
 ·rw [if_pos (hy true hg)]
  have hN : ∀ e w', EndR C.Fr (reg ah) w (D v ah) e w' → ∃ u, e = .returned u ∧ K (a.put o.dst u) w' := by
   rintro e w' ⟨x, ah', ⟨hx, rfl⟩, he, hst, hxt, hn⟩
   subst hx
   obtain ⟨u, rfl, hr⟩ := he
   exact ⟨u, rfl, hK _ _ (g.next hd hr hst hxt hn)⟩
  have hr := hop.out C.Fr a w g.st gk
  unfold Oper.wpIn
  refine ⟨fun _ _ => trivial, ?_⟩
  rw [semAt_run (fun d w' e => by rw [e] at hr; exact hr)]
  generalize (execOp a.eval o).run C.P w = r at hr ⊢
  cases r with
  | ok nx w' =>
   cases nx <;> simp only [Out] at hr <;> simp only [Oper.uponIn]
   case value u => obtain ⟨u', e, h⟩ := hN _ _ hr; injection e with e; subst e; exact h
   case skip => obtain ⟨u', e, h⟩ := hN _ _ hr; injection e with e; subst e; exact h
   case enter f args =>
    refine ⟨fz_depth, callsFz (hr.mono fun e w'' he => ?_)⟩
    obtain ⟨u, rfl, h⟩ := hN _ _ he
    exact h
   case round l f tmps x y =>
    refine ⟨fz_depth, roundFz (hr.2.mono fun e w'' he => ?_)⟩
    obtain ⟨u, rfl, h⟩ := hN _ _ he
    exact h
  | halt x w' =>
   cases x <;> simp only [Out] at hr
   case panic u => obtain ⟨u', e, _⟩ := hN _ _ hr; cases e
 ·rw [if_neg (by rw [hy false hg]; simp)]
  exact ⟨fun _ _ => trivial, hK _ _ (g.next hd (u := undef) rel_undef g.st (Ext.refl _ _) (fun _ _ _ h => h))⟩
theorem getD_true {listed : Array Bool} {i : Nat} : listed.getD i true = false ↔ listed[i]? = some false := by
 rw [Array.getD_eq_getD_getElem?]; cases listed[i]? <;> simp
def Marks (n : Nat) (listed : Array Bool) (l : List Nat) : Prop := listed.size = n ∧ (∀ i, i < n → (listed[i]? = some true ↔ i ∈ l)) ∧ ∀ i ∈ l, i < n
theorem Marks.set {n : Nat} {listed : Array Bool} {l : List Nat} (h : Marks n listed l) {i : Nat} (hi : i < n) : Marks n (listed.setIfInBounds i true) (i :: l) := by
 refine ⟨by simp [h.1], fun j hj => ?_, fun j hj => by rcases List.mem_cons.1 hj with rfl | hj; exact hi; exact h.2.2 j hj⟩
 rw [Array.getElem?_setIfInBounds, List.mem_cons]
 by_cases e : i = j
 ·subst e; simp [h.1, hi]
 ·rw [if_neg e, h.2.1 j hj]
  exact ⟨.inr, fun h => h.elim (fun h => absurd h.symm e) id⟩
theorem Marks.ready {n : Nat} {ops : Array Oper} {listed : Array Bool} {l : List Nat} (h : Marks n listed l) (hn : ops.size = n) {i : Nat} (hi : i ∈ Region.ready .any ops listed) :
  i < n ∧ i ∉ l ∧ ∃ o, ops[i]? = some o ∧ ∀ e ∈ o.after, Region.binds .any e = true → e.on ∈ l := by
 obtain ⟨h0, o, ho, he⟩ := mem_ready.1 hi
 have hlt : i < n := hn ▸ (Array.getElem?_eq_some_iff.1 ho).1
 have h0' := getD_true.1 h0
 refine ⟨hlt, fun hl => ?_, o, ho, fun e hem hb => ?_⟩
 ·rw [(h.2.1 i hlt).2 hl] at h0'; cases h0'
 ·have := he e hem hb
  rw [Array.getD_eq_getD_getElem?] at this
  have hm : listed[e.on]? = some true := by cases hx : listed[e.on]? <;> simp [hx] at this; rw [this]
  have : e.on < n := h.1 ▸ (Array.getElem?_eq_some_iff.1 hm).1
  exact (h.2.1 _ this).1 hm
theorem Marks.full {n : Nat} {ops : Array Oper} {listed : Array Bool} {l : List Nat} (h : Marks n listed l) (hn : ops.size = n) (hd : drawOK ops = true) (hr : Region.ready .any ops listed = []) : ∀ i, i < n → i ∈ l := by
 intro i
 induction i using Nat.strongRecOn with
 | _ i ih =>
  intro hi
  by_cases hm : i ∈ l
  ·exact hm
  exfalso
  have ho : ops[i]? = some ops[i] := Array.getElem?_eq_getElem (by omega)
  have : i ∈ Region.ready .any ops listed := mem_ready.2 ⟨getD_true.2 (by
    have h1 : listed[i]? ≠ some true := fun e => hm ((h.2.1 i hi).1 e)
    have h2 : i < listed.size := by rw [h.1]; exact hi
    rw [Array.getElem?_eq_getElem h2] at h1 ⊢
    cases hx : listed[i] <;> simp_all), _, ho, fun e he hb => by
   have hlt := drawOK_edge hd ho he hb
   have := ih e.on hlt (by omega)
   rw [Array.getD_eq_getD_getElem?, (h.2.1 e.on (by omega)).2 this]; rfl⟩
  rw [hr] at this
  cases this
theorem nodup_len {a b : List Nat} (h : a.Nodup) (hs : a ⊆ b) : a.length ≤ b.length := by
 induction a generalizing b with
 | nil => simp
 | cons x a ih =>
  obtain ⟨h1, h2⟩ := List.nodup_cons.1 h
  have hx : x ∈ b := hs (by simp)
  have := ih h2 (b := b.erase x) fun y hy => (List.mem_erase_of_ne (fun e => h1 (by rw [← e]; exact hy))).2 (hs (List.mem_cons_of_mem _ hy))
  have hl := List.length_erase_of_mem hx
  have hp : 0 < b.length := List.length_pos_of_mem hx
  simp only [List.length_cons]
  omega
theorem AW.draw_core {ops : Array Oper} {id : Nat} (hm : C.P.follows .mixedOrders = true) (hd : drawOK ops = true) (hn : ops.toList.all (fun o => okDst o.dst C.n) = true) (m : Nat) (hmn : m = ops.size ∨ (m + 1 = ops.size ∧ lastOK ops m = true))
  (vs : List AV) (hvl : vs.length = m) (hq : ∀ i o v, i < m → ops[i]? = some o → vs[i]? = some v → QStep C.P ops ah o (((ops.toList.zip vs).take i).foldl (fun f p => put f p.1.dst p.2) af) v)
  (hfin : ∀ a w, Good C ds (((ops.toList.zip vs).take m).foldl (fun f p => put f p.1.dst p.2) af) ah a w → if m = ops.size then hnd C.P C.ro C.R ks .normal a w else wpListIn (fz C.ro) 0 C.P ops (hnd C.P C.ro C.R ks) (ops.toList.drop m) a w) :
  AW C ds (.c (.region id ops true) :: ks) af ah := .mk fun a w g => by
 simp only [hnd]
 refine wpIn_region_any hm ?_
 have hms : m ≤ ops.size := by rcases hmn with h | ⟨h, _⟩ <;> omega
 have hgt : ∀ (i : Nat) (o : Oper), ops[i]? = some o → ∀ t, t ∈ (match o.guard with | some (g, _) => (dstOf ops g).toList | none => []) → Nat.blt t C.n = true := by
  intro i o ho t ht
  cases hg : o.guard with
  | none => simp [hg] at ht
  | some p =>
   simp only [hg, Option.mem_toList, Option.mem_def] at ht
   unfold dstOf at ht
   cases hp : ops[p.1]? with
   | none => simp [hp] at ht
   | some q =>
    simp only [hp, Option.bind_some] at ht
    have := okDst_of hn hp
    simpa [okDst, ht] using this
 have key : ∀ (fuel : Nat) (listed : Array Bool) (l : List Nat) (a : Act) (w : World), Marks ops.size listed l → (∀ i ∈ l, i < m) → Closed ops l → fuel + l.length = ops.size → Good C ds (frameOf ops vs af l) ah a w →
   wpAnyIn (fz C.ro) 0 C.P .any ops (hnd C.P C.ro C.R ks) fuel listed a w := by
  intro fuel
  induction fuel with
  | zero =>
   intro listed l a w hM hlm hc hf g
   have hnd : l.Nodup := by
    clear hf g hM hlm
    induction hc with
    | nil => simp
    | cons _ hx _ _ ih => exact List.nodup_cons.2 ⟨hx, ih⟩
   have hlen : l.length ≤ m := by
    have : l ⊆ List.range m := fun i hi => List.mem_range.2 (hlm i hi)
    have := nodup_len hnd this
    simpa using this
   have hm' : m = ops.size := by rcases hmn with h | ⟨h, _⟩ <;> omega
   have hready : Region.ready .any ops listed = [] := by
    rw [List.eq_nil_iff_forall_not_mem]
    intro i hi
    obtain ⟨h1, h2, _⟩ := hM.ready rfl hi
    have : (i :: l).length ≤ ops.size := by
     have hs : (i :: l) ⊆ List.range ops.size := fun j hj => List.mem_range.2 (by rcases List.mem_cons.1 hj with rfl | hj; exact h1; exact hM.2.2 j hj)
     have := nodup_len (List.nodup_cons.2 ⟨h2, hnd⟩) hs
     simpa using this
    simp at this
    omega
   have hall := hM.full rfl hd hready
   refine ⟨hready, ?_⟩
   have := hfin a w { g with fr := fun s v hs => g.fr s v (by
    rw [get_frameOf, wr_all hd hc m (fun i hi => hall i (by omega)) hlm, ← get_frameOf, frameOf_down m hms (by omega)]; exact hs) }
   rwa [if_pos hm'] at this
  | succ fuel ih =>
   intro listed l a w hM hlm hc hf g
   refine ⟨fun hready => ?_, fun i hi => ?_⟩
   ·exfalso
    have hall := hM.full rfl hd hready
    have hs : List.range ops.size ⊆ l := fun i hi => hall i (List.mem_range.1 hi)
    have := nodup_len List.nodup_range hs
    simp at this
    omega
   ·obtain ⟨h1, h2, o, ho, he⟩ := hM.ready rfl hi
    have hc' : Closed ops (i :: l) := .cons hc h2 ho he
    rcases Nat.lt_or_ge i m with him | him
    ·have hv : vs[i]? = some (vs.getD i .any) := by
      rw [List.getElem?_eq_getElem (by omega)]; simp [List.getD_eq_getElem?_getD, List.getElem?_eq_getElem (show i < vs.length by omega)]
     have hqs := hq i o _ him ho hv
     have hkk : keep (oslots ops o) (((ops.toList.zip vs).take i).foldl (fun f p => put f p.1.dst p.2) af) = keep (oslots ops o) (frameOf ops vs af l) := keep_congr fun s hs => by
      rw [← frameOf_down i (by omega) (by omega), get_frameOf, get_frameOf, wr_text hd hc' ho hs]
     refine quiet_one (K := wpAnyIn (fz C.ro) 0 C.P .any ops (hnd C.P C.ro C.R ks) fuel (listed.setIfInBounds i true)) g ho (okDst_of hn ho) (hgt i o ho) hkk hqs fun a' w' g' => ?_
     refine ih _ (i :: l) a' w' (hM.set h1) (fun j hj => by rcases List.mem_cons.1 hj with rfl | hj; exact him; exact hlm j hj) hc' (by simp; omega) ?_
     have : dstOf ops i = o.dst := by simp [dstOf, ho]
     simp only [frameOf, this]
     exact g'
    ·-- the last one
     rcases hmn with hmn | ⟨hmn, hlast⟩
     ·omega
     have hie : i = m := by omega
     subst hie
     have hall : ∀ j, j < i → j ∈ l := fun j hj => by
      simp only [lastOK, List.all_eq_true, List.mem_range] at hlast
      exact Closed.before _ hc' (hlast j hj)
     have hwl := hfin a w { g with fr := fun s v hs => g.fr s v (by
      rw [get_frameOf, wr_all hd hc i (fun j hj => hall j hj) hlm, ← get_frameOf, frameOf_down i hms (by omega)]; exact hs) }
     rw [if_neg (by omega)] at hwl
     have hdrop : ops.toList.drop i = [o] := by
      have h4 : ops.toList[i]? = some o := by simpa using ho
      obtain ⟨h5, h6⟩ := List.getElem?_eq_some_iff.1 h4
      rw [List.drop_eq_getElem_cons h5, h6, List.drop_eq_nil_of_le (by simp; omega)]
     rw [hdrop] at hwl
     have hready' : Region.ready .any ops (listed.setIfInBounds i true) = [] := by
      rw [List.eq_nil_iff_forall_not_mem]
      intro j hj
      obtain ⟨k1, k2, _⟩ := (hM.set h1).ready rfl hj
      apply k2
      rcases Nat.lt_or_ge j i with h | h
      ·exact List.mem_cons_of_mem _ (hall j h)
      ·have : j = i := by omega
       subst this; simp
     have hnext : ∀ a' w', hnd C.P C.ro C.R ks .normal a' w' → wpAnyIn (fz C.ro) 0 C.P .any ops (hnd C.P C.ro C.R ks) fuel (listed.setIfInBounds i true) a' w' := by
      intro a' w' h
      cases fuel with
      | zero => exact ⟨hready', h⟩
      | succ fuel => exact ⟨fun _ => h, fun j hj => by rw [hready'] at hj; cases hj⟩
     unfold wpOpIn
     simp only [ho]
     unfold wpListIn at hwl
     by_cases hw : Region.wanted o (yielded ops a.tmps) = true
     ·rw [if_pos hw] at hwl ⊢
      exact Oper.wpIn_mono (fun a' w' h => hnext a' w' (by simpa [wpListIn] using h)) hwl
     ·rw [if_neg hw] at hwl ⊢
      exact ⟨fun _ _ => trivial, hnext _ _ (by simpa [wpListIn] using hwl.2)⟩
 refine key ops.size (Array.replicate ops.size false) [] a _ ⟨by simp, fun i hi => by simp [hi], by simp⟩ (by simp) .nil (by simp) ?_
 have hx : Ext (fun _ _ => False) w { w with drawn := w.drawn + 1 } := ⟨rfl, rfl, rfl, Nat.le_refl _, fun _ _ _ => rfl, fun _ _ h _ => h⟩
 exact { g with st := g.st.grow hx, ext := ⟨g.ext.os, g.ext.tape, g.ext.output, g.ext.size, g.ext.blk, g.ext.cell⟩, fr := fun s v hs => Rel.mv (w := w) (w' := { w with drawn := w.drawn + 1 }) (S := Sof C.Fr ah) (S' := Sof C.Fr ah) (fun _ _ hc hs => ⟨hc, hs⟩) (g.fr s v hs) }
theorem AW.draw {ops : Array Oper} {id : Nat} (hm : C.P.follows .mixedOrders = true) (hd : drawOK ops = true) (hn : ops.toList.all (fun o => okDst o.dst C.n) = true)
  (h : AQ C.P ops ah ops.toList af (fun af' => AW C ds ks af' ah)) : AW C ds (.c (.region id ops true) :: ks) af ah := by
 obtain ⟨vs, h1, h2, h3⟩ := h.out
 refine AW.draw_core hm hd hn ops.size (.inl rfl) vs (by simpa using h1) (fun i o v _ ho hv => h3 i o v (by simpa using ho) hv) fun a w g => ?_
 rw [if_pos rfl]
 refine h2.out a w ?_
 rwa [List.take_of_length_le (by simp; omega)] at g
theorem AW.draw_last {ops : Array Oper} {id : Nat} (hm : C.P.follows .mixedOrders = true) (hd : drawOK ops = true) (hn : ops.toList.all (fun o => okDst o.dst C.n) = true) {qs : List Oper} {o : Oper} (hs : ops.toList = qs ++ [o]) (hl : lastOK ops qs.length = true)
  (h : AQ C.P ops ah qs af (fun af' => AL C ds ks ops [o] af' ah)) : AW C ds (.c (.region id ops true) :: ks) af ah := by
 obtain ⟨vs, h1, h2, h3⟩ := h.out
 have hsz : ops.size = qs.length + 1 := by rw [← Array.length_toList, hs]; simp
 have hz : ∀ i, i ≤ qs.length → (ops.toList.zip vs).take i = (qs.zip vs).take i := fun i hi => by
  rw [hs]
  have : (qs ++ [o]).zip vs = qs.zip vs := by
   have : vs = vs ++ [] := by simp
   rw [this, List.zip_append (by omega)]; simp
  rw [this]
 refine AW.draw_core hm hd hn qs.length (.inr ⟨by omega, hl⟩) vs h1 (fun i o' v hi ho hv => ?_) fun a w g => ?_
 ·rw [hz i (by omega)]
  refine h3 i o' v ?_ hv
  have : ops.toList[i]? = some o' := by simpa using ho
  rw [hs, List.getElem?_append_left hi] at this
  exact this
 ·rw [if_neg (by omega)]
  have := h2.out a w (by rwa [hz _ (Nat.le_refl _), List.take_of_length_le (by simp; omega)] at g)
  rw [hs]
  simpa using this
end
theorem St.sub {Fr : Rg} {a b : AH} {w : World} (h : a.Sublist b) (s : St Fr b w) : St Fr a w where
 nodup := (h.filterMap Own.blk).nodup s.nodup
 lt := fun o ho => s.lt o (h.subset ho)
 fr := fun o ho => s.fr o (h.subset ho)
 frlt := s.frlt
 rel := fun o ho => (s.rel o (h.subset ho)).mv (Mv.same w fun b o hs => hs.elim .inl fun ⟨y, hy, hr⟩ => .inr ⟨y, h.subset hy, hr⟩) fun _ _ => rfl
theorem reg_sub {a b : AH} (h : a.Sublist b) {x y : Nat} (hr : reg a x y) : reg b x y := let ⟨z, hz, k⟩ := hr; ⟨z, h.subset hz, k⟩
theorem Good.sub {C : Cx} {ds : List Deferred} {af : AF} {a b : AH} {ac : Act} {w : World} (h : a.Sublist b) (g : Good C ds af b ac w) : Good C ds af a ac w where
 size := g.size
 defers := g.defers
 st := g.st.sub h
 ext := g.ext
 old := fun b o hb hr => g.old b o hb (reg_sub h hr)
 fr := g.fr.mv (Mv.same w fun b o hs => hs.elim .inl fun hr => .inr (reg_sub h hr))
section
variable {C : Cx} {ds : List Deferred} {ks : List K} {af : AF} {ah : AH} {ops : Array Oper} {rest : List Oper}
theorem AL.drop {ah' : AH} (h : ah'.Sublist ah) (k : AL C ds ks ops rest af ah') : AL C ds ks ops rest af ah := .mk fun a w g => k.out a w (g.sub h)
theorem AW.drop {ah' : AH} (h : ah'.Sublist ah) (k : AW C ds ks af ah') : AW C ds ks af ah := .mk fun a w g => k.out a w (g.sub h)
theorem Good.freeze {a : Act} {w : World} (g : Good C ds af ah a w) {i d b : Nat} {c : AV} (hi : ah[i]? = some (.box b c)) (hd : get af d = some (.ref b 0)) : Good C ds ((d, .at c) :: af) (ah.eraseIdx i) a w := by
 have g' := g.sub (List.eraseIdx_sublist ah i)
 obtain ⟨cs, t, hh, hr⟩ := g.st.rel _ (List.mem_of_getElem? hi)
 have hbm := List.mem_of_getElem? hi
 have hsof : ∀ b o, Sof C.Fr (ah.eraseIdx i) b o → Sof C.Fr ah b o := fun b o hs => hs.elim .inl fun hr => .inr (reg_sub (List.eraseIdx_sublist ah i) hr)
 refine { g' with fr := fun j v hj => ?_ }
 rw [get_cons] at hj
 by_cases e : d = j
 ·subst e
  rw [if_pos rfl] at hj
  obtain rfl := Option.some.inj hj
  have hu := (g.fr d _ hd).ref
  rw [hu]
  refine ⟨?_, by simp [Shape]⟩
  show RelC _ _ (.at c) [_]
  simp only [RelC]
  refine ⟨b, 0, cs.toList, rfl, RelC.mv (Mv.same w hsof) _ _ hr, fun j u hj => ⟨?_, ?_⟩⟩
  ·rintro (hF | ⟨y, hy, hy'⟩)
   ·exact g.st.fr _ hbm b rfl _ hF
   ·have hyb := reg_blk hy'
    obtain ⟨e1, _⟩ := mem_split hi
    have hn := g.st.nodup
    rw [e1, List.filterMap_append, List.nodup_append, List.filterMap_cons] at hn
    simp only [Own.blk] at hn
    rw [List.eraseIdx_eq_take_drop_succ] at hy
    rcases List.mem_append.1 hy with hy | hy
    ·exact hn.2.2 b (List.mem_filterMap.2 ⟨y, hy, hyb⟩) b (by simp) rfl
    ·exact (List.nodup_cons.1 hn.2.1).1 (List.mem_filterMap.2 ⟨y, hy, hyb⟩)
  ·rw [cell_of_row w b _ cs t (0, 0) hh]
   simpa using hj
 ·rw [if_neg e] at hj
  exact g'.fr j v hj
theorem AL.freeze (i d : Nat) {b : Nat} {c : AV} (hi : ah[i]? = some (.box b c)) (hd : get af d = some (.ref b 0)) (k : AL C ds ks ops rest ((d, .at c) :: af) (ah.eraseIdx i)) : AL C ds ks ops rest af ah := .mk fun a w g => k.out a w (g.freeze hi hd)
theorem AW.freeze (i d : Nat) {b : Nat} {c : AV} (hi : ah[i]? = some (.box b c)) (hd : get af d = some (.ref b 0)) (k : AW C ds ks ((d, .at c) :: af) (ah.eraseIdx i)) : AW C ds ks af ah := .mk fun a w g => k.out a w (g.freeze hi hd)
end
def allocTy (P : Program) (T : TypeId) : Option (Bool × Nat) := match P.underlying T, P.info? T with
 | some d, some i => match i.zero with
  | some z => bif Nat.beq z.cells.size i.size then some (aggB d, i.size) else none
  | none => none
 | _, _ => none
def zeroCells (P : Program) (T : TypeId) : Option (List Value) := ((P.info? T).bind (·.zero)).map (·.cells.toList)
def anyAV (g : Bool) (n : Nat) : AV := if g then .st (List.replicate n .any) else .any
theorem relCs_any {S : Rg} {w : World} : ∀ (cs : List Value), RelCs S w (List.replicate cs.length .any) cs
 | [] => by simp [RelCs]
 | c :: cs => by simp only [List.length_cons, List.replicate_succ, RelCs]; exact ⟨[c], cs, rfl, ⟨c, by rfl⟩, relCs_any cs⟩
theorem allocTy_parts {P : Program} {T : TypeId} {g : Bool} {n : Nat} (h : allocTy P T = some (g, n)) : tkind P T = some (g, n) ∧ ∃ i z, P.info? T = some i ∧ i.zero = some z ∧ z.cells.size = n := by
 unfold allocTy at h
 split at h
 ·rename_i d i hd hi
  split at h
  ·rename_i z hz
   obtain ⟨h1, h2⟩ := cond_some h
   simp only [Prod.mk.injEq] at h2
   obtain ⟨rfl, rfl⟩ := h2
   exact ⟨by simp [tkind, hd, hi], i, z, hi, hz, nbeq_iff.1 h1⟩
  ·cases h
 ·cases h
section
variable {P : Program} {af : AF} {ah : AH}
variable {d : Option Tmp} {T : TypeId} {ps : String} {es : Array Edge} {gd : Option (Nat × Bool)}
theorem run_alloc_op {t : TypeId} {i : TypeInfo} {z : Value} (hi : P.info? t = some i) (hz : i.zero = some z) (ρ : Operand → Value) (w : World) :
  (execOp ρ ⟨d, .alloc t, T, ps, es, gd⟩).run P w = .ok (.value (.pointer (some ⟨w.heap.size, 0, none⟩))) (w.alloc (.cells z.cells t)) := by
 simp [execOp, Instr.alloc, zeroValue, typeInfo, hi, hz, newVar, newRow, newObj, Sem.run]
theorem AOp.alloc_any {t : TypeId} {g : Bool} {n : Nat} (ht : allocTy P t = some (g, n)) (h1 : g = true ∨ n = 1) :
  AOp P ⟨d, .alloc t, T, ps, es, gd⟩ af ah (fun e h => ∃ b, e = .ret (.ref b 0) ∧ h = .box b (anyAV g n) :: ah) := .mk fun Fr a w hst hf => by
 obtain ⟨_, i, z, hi, hz, hs⟩ := allocTy_parts ht
 rw [run_alloc_op hi hz]
 have hx' : Ext (fun _ _ => False) w (w.alloc (.cells z.cells t)) := Ext.alloc _ _ _
 obtain ⟨k1, k2, k3⟩ := hst.cons (x := .box w.heap.size (anyAV g n)) (b := w.heap.size) rfl (Nat.le_refl _) (by simp) hx' (fun m => ⟨_, t, heap_alloc_new w _, by
  unfold anyAV
  cases g with
  | true => simp only [if_true, RelC]; have := relCs_any (S := Sof Fr (.box w.heap.size (anyAV true n) :: ah)) (w := w.alloc (.cells z.cells t)) z.cells.toList; simpa [hs, anyAV] using this
  | false =>
   simp only [Bool.false_eq_true, false_or] at h1
   subst h1
   simp only [Bool.false_eq_true, if_false, RelC]
   match hz : z.cells.toList, (show z.cells.toList.length = 1 by simpa using hs) with
   | [v], _ => exact ⟨v, rfl⟩⟩)
 exact ⟨_, _, ⟨_, rfl, rfl⟩, ⟨_, rfl, mk_ref⟩, k1, k2, k3⟩
theorem AOp.alloc {t : TypeId} {z : AV} (ht : zeroCells P t = z.flat) (hz : z.flat.isSome = true) :
  AOp P ⟨d, .alloc t, T, ps, es, gd⟩ af ah (fun e h => ∃ b, e = .ret (.ref b 0) ∧ h = .box b z :: ah) := .mk fun Fr a w hst hf => by
 cases hi : P.info? t with
 | none => simp [zeroCells, hi] at ht; rw [← ht] at hz; cases hz
 | some i =>
  cases hzz : i.zero with
  | none => simp [zeroCells, hi, hzz] at ht; rw [← ht] at hz; cases hz
  | some v =>
   simp only [zeroCells, hi, hzz, Option.bind_some, Option.map_some] at ht
   rw [run_alloc_op hi hzz]
   have hx' : Ext (fun _ _ => False) w (w.alloc (.cells v.cells t)) := Ext.alloc _ _ _
   obtain ⟨k1, k2, k3⟩ := hst.cons (x := .box w.heap.size z) (b := w.heap.size) rfl (Nat.le_refl _) (by simp) hx' (fun m => ⟨_, t, heap_alloc_new w _, RelC.flat z _ ht.symm⟩)
   exact ⟨_, _, ⟨_, rfl, rfl⟩, ⟨_, rfl, mk_ref⟩, k1, k2, k3⟩
end
section
variable {C : Cx} {ds : List Deferred} {ks : List K} {af : AF} {ah : AH} {ops : Array Oper} {rest : List Oper}
theorem AL.alloc_store {dd : Nat} {x : Operand} {v : AV} {t T T' : TypeId} {ps ps' : String} {es es' : Array Edge} (ht : allocTy C.P t = some (v.isSt, v.size)) (hx : aeval ((dd, .any) :: af) x = some v) (hok : v.cellOK = true) (hn : Nat.blt dd C.n = true)
  (hup : (anyAV v.isSt v.size).upd 0 v = some v) (hk : AL C ds ks ops rest ((dd, .at v) :: af) ah) :
  AL C ds ks ops (⟨some dd, .alloc t, T, ps, es, none⟩ :: ⟨none, .store t (.tmp dd) x, T', ps', es', none⟩ :: rest) af ah := by
 have h1 : v.isSt = true ∨ v.size = 1 := by
  cases hv : v.isSt with
  | true => exact .inl rfl
  | false =>
   right
   rw [hv] at hup
   simp only [anyAV, Bool.false_eq_true, if_false, AV.upd] at hup
   obtain ⟨hb, _⟩ := cond_some hup
   simp only [Bool.and_eq_true, nbeq_iff] at hb
   exact hb.2.symm
 refine AL.step rfl hn (AOp.alloc_any ht h1) ?_ (by rintro _ _ ⟨b, e, _⟩; cases e)
 rintro _ _ ⟨b, e, rfl⟩
 injection e with e
 subst e
 have hx' : aeval ((dd, .ref b 0) :: af) x = some v := by
  cases x with
  | tmp t =>
   simp only [aeval, get_cons] at hx ⊢
   by_cases e : dd = t
   ·rw [if_pos e] at hx; obtain rfl := Option.some.inj hx; simp [AV.cellOK] at hok
   ·rw [if_neg e] at hx ⊢; exact hx
  | _ => exact hx
 refine AL.store_box (i := 0) (by simp [aeval, put, get_cons]) hx' rfl hup hok (allocTy_parts ht).1 ?_
 refine AL.freeze 0 dd rfl (by simp [put, get_cons]) ?_
 refine .mk fun a w g => hk.out a w { g with fr := fun i u hi => g.fr i u ?_ }
 simp only [put, get_cons] at hi ⊢
 by_cases e : dd = i
 ·rw [if_pos e] at hi ⊢; exact hi
 ·rw [if_neg e] at hi ⊢; rw [if_neg e]; exact hi
end
section
variable {S : Rg} {w : World}
theorem RelRow.cells : ∀ {xs : List AV} {sz b o : Nat}, RelRow S w xs sz b o → ∃ ds, RelCs S w xs ds ∧ (∀ x ∈ xs, x.size = sz) ∧ ds.length = xs.length * sz ∧ ∀ j v, ds[j]? = some v → ¬ S b (o + j) ∧ w.cell? ⟨b, o + j, none⟩ = some v
 | [], sz, b, o, _ => ⟨[], by simp [RelCs], by simp, by simp, by simp⟩
 | x :: xs, sz, b, o, h => by
  simp only [RelRow] at h
  obtain ⟨⟨cs, h1, h2, h3⟩, h4⟩ := h
  obtain ⟨ds, k1, k2, k3, k4⟩ := RelRow.cells h4
  refine ⟨cs ++ ds, by simp only [RelCs]; exact ⟨cs, ds, rfl, h2, k1⟩, fun y hy => ?_, by simp [h1, k3, Nat.add_mul, Nat.add_comm], fun j v hj => ?_⟩
  ·rcases List.mem_cons.1 hy with rfl | hy
   ·rw [← RelC.size y cs h2, h1]
   ·exact k2 y hy
  ·rcases Nat.lt_or_ge j cs.length with hl | hl
   ·rw [List.getElem?_append_left hl] at hj; exact h3 j v hj
   ·rw [List.getElem?_append_right hl] at hj
    have := k4 _ v hj
    rwa [show o + sz + (j - cs.length) = o + j by omega] at this
theorem RelRow.of_cells : ∀ {xs : List AV} {sz b o : Nat} {ds : List Value}, RelCs S w xs ds → (∀ x ∈ xs, x.size = sz) → (∀ j v, ds[j]? = some v → ¬ S b (o + j) ∧ w.cell? ⟨b, o + j, none⟩ = some v) → RelRow S w xs sz b o
 | [], _, _, _, _, _, _, _ => by simp [RelRow]
 | x :: xs, sz, b, o, ds, h, hs, hc => by
  simp only [RelCs] at h
  obtain ⟨c1, c2, rfl, h1, h2⟩ := h
  have hl : c1.length = sz := by rw [RelC.size x c1 h1]; exact hs x (by simp)
  simp only [RelRow]
  refine ⟨⟨c1, hl, h1, fun j v hj => hc j v ?_⟩, RelRow.of_cells h2 (fun y hy => hs y (List.mem_cons_of_mem _ hy)) fun j v hj => ?_⟩
  ·rw [List.getElem?_append_left (List.getElem?_eq_some_iff.1 hj).1]; exact hj
  ·have := hc (sz + j) v (by rw [List.getElem?_append_right (by omega), hl]; rwa [show sz + j - sz = j by omega])
   rwa [← Nat.add_assoc] at this
theorem RelRow.append : ∀ {xs ys : List AV} {sz b o : Nat}, RelRow S w xs sz b o → RelRow S w ys sz b (o + xs.length * sz) → RelRow S w (xs ++ ys) sz b o
 | [], ys, sz, b, o, _, k => by simpa using k
 | x :: xs, ys, sz, b, o, h, k => by
  simp only [RelRow, List.cons_append] at h ⊢
  refine ⟨h.1, RelRow.append h.2 ?_⟩
  rwa [show o + sz + xs.length * sz = o + (x :: xs).length * sz by simp [Nat.add_mul]; omega]
theorem RelCs.append : ∀ {xs : List AV} {cs : List Value} {ys : List AV} {ds : List Value}, RelCs S w xs cs → RelCs S w ys ds → RelCs S w (xs ++ ys) (cs ++ ds)
 | [], cs, ys, ds, h, k => by simp only [RelCs] at h; subst h; exact k
 | x :: xs, cs, ys, ds, h, k => by
  simp only [RelCs] at h
  obtain ⟨c1, c2, rfl, h1, h2⟩ := h
  simp only [List.cons_append, RelCs]
  exact ⟨c1, c2 ++ ds, by simp, h1, RelCs.append h2 k⟩
end
theorem lay_get {cs ds : List Value} {off j : Nat} (h : off + ds.length ≤ cs.length) : (lay cs off ds)[j]? = if j < off then cs[j]? else if j < off + ds.length then ds[j - off]? else cs[j]? := by
 unfold lay
 by_cases h1 : j < off
 ·rw [if_pos h1, List.append_assoc, List.getElem?_append_left (by simp; omega), List.getElem?_take, if_pos h1]
 ·rw [if_neg h1]
  by_cases h2 : j < off + ds.length
  ·rw [if_pos h2, List.getElem?_append_left (by simp; omega), List.getElem?_append_right (by simp; omega)]
   congr 1
   simp; omega
  ·rw [if_neg h2, List.getElem?_append_right (by simp; omega), List.getElem?_drop]
   congr 1
   simp; omega
def appTy (P : Program) (T : TypeId) : Option (Nat × Nat × Nat) := match P.underlying T with
 | some (.slice e) => match P.info? e with
  | some i => match i.zero with
   | some z => bif Nat.beq z.cells.size i.size && Nat.blt 0 i.size then some (e, i.size, i.bytes) else none
   | none => none
  | none => none
 | _ => none
def isSlTy (P : Program) (T : TypeId) : Bool := match P.underlying T with | some (.slice _) => true | _ => false
theorem appTy_parts {P : Program} {T e sz bytes : Nat} (h : appTy P T = some (e, sz, bytes)) : P.underlying T = some (.slice e) ∧ ∃ i z, P.info? e = some i ∧ i.zero = some z ∧ z.cells.size = sz ∧ i.size = sz ∧ i.bytes = bytes ∧ 0 < sz := by
 unfold appTy at h
 split at h
 ·rename_i e' hu
  split at h
  ·rename_i i hi
   split at h
   ·rename_i z hz
    obtain ⟨h1, h2⟩ := cond_some h
    simp only [Prod.mk.injEq] at h2
    obtain ⟨rfl, rfl, rfl⟩ := h2
    simp only [Bool.and_eq_true, nbeq_iff] at h1
    exact ⟨hu, i, z, hi, hz, h1.1, rfl, rfl, by simpa using h1.2⟩
   ·cases h
  ·cases h
 ·cases h
theorem run_append_room {P : Program} {w : World} {T T2 ty e sz bytes : Nat} {base A2 : Option Addr} {n cap m c2 : Nat} {news : List Value} (ht : appTy P T = some (e, sz, bytes)) (ht2 : isSlTy P T2 = true) (hsrc : (Builtin.firstCells sz m (.slice A2 m c2)).run P w = .ok news.toArray w)
  (hroom : n + m ≤ cap) : (Builtin.append_ #[T, T2] ty #[.slice base n cap, .slice A2 m c2]).run P w =
   match base with
   | some a => ((storeCells (a.add (n * sz)) news).run P w).andThen fun _ w' => .ok (.slice base (n + m) cap) w'
   | none => .ok (.slice base (n + m) cap) w := by
 obtain ⟨hu, i, z, hi, hz, hzs, rfl, rfl, hpos⟩ := appTy_parts ht
 obtain ⟨e2, hu2⟩ : ∃ e2, P.underlying T2 = some (.slice e2) := by
  unfold isSlTy at ht2; split at ht2 <;> first | exact ⟨_, ‹_›⟩ | cases ht2
 unfold Builtin.append_
 simp only [List.getElem?_toArray, List.getElem?_cons_zero, List.getElem?_cons_succ, Sem.run_bind, run_underlying hu, run_underlying hu2, Result.andThen_ok, sizeOf, typeInfo, program, Sem.run, hi, Sem.run_pure, Builtin.lenOf, Bool.false_eq_true, if_false]
 cases base with
 | none => simp [hroom, hsrc]
 | some a => simp [hroom, hsrc]
theorem run_append_grow {P : Program} {w : World} {T T2 ty e sz bytes : Nat} {base A2 : Option Addr} {n cap m c2 : Nat} {olds news : List Value} (ht : appTy P T = some (e, sz, bytes)) (ht2 : isSlTy P T2 = true)
  (hsrc : (Builtin.firstCells sz m (.slice A2 m c2)).run P w.drew = .ok news.toArray w.drew) (hold : (Builtin.firstCells sz n (.slice base n cap)).run P w.drew = .ok olds.toArray w.drew) (hgrow : cap < n + m) (hb : (n + m) * bytes ≤ 140737488355328) (h63 : n + m ≤ maxLen) :
  ∃ (c : Nat) (z : Value), n + m ≤ c ∧ c ≤ maxLen ∧ z.cells.size = sz ∧ (Builtin.append_ #[T, T2] ty #[.slice base n cap, .slice A2 m c2]).run P w =
   .ok (.slice (some ⟨w.heap.size, 0, none⟩) (n + m) c) (w.drew.alloc (.cells (olds.toArray ++ news.toArray ++ Builtin.zeroCells z.cells (c - (n + m))) e)) := by
 obtain ⟨hu, i, z, hi, hz, hzs, rfl, rfl, hpos⟩ := appTy_parts ht
 obtain ⟨e2, hu2⟩ : ∃ e2, P.underlying T2 = some (.slice e2) := by
  unfold isSlTy at ht2; split at ht2 <;> first | exact ⟨_, ‹_›⟩ | cases ht2
 refine ⟨grownCap w (n + m) cap e, z, grownCap_ge w (n + m) cap e, grownCap_le_maxLen w (n + m) cap e h63, hzs, ?_⟩
 have hfit := growslice_fits (old := cap) hgrow hb
 have hn : ¬ (n + m ≤ cap) := by omega
 have h63' : ¬ (9223372036854775807 < ((n : Int) + (m : Int))) := by unfold maxLen at h63; omega
 have h48' : ¬ (281474976710656 < Builtin.nextslicecap (n + m) cap * i.bytes) := by omega
 simp [Builtin.append_, run_underlying hu, run_underlying hu2, sizeOf, typeInfo, zeroValue, hi, hz, Builtin.lenOf, hn, h63', h48', Question.forced, hsrc, hold, newRow, grownCap]
 try (congr 2; apply Array.ext'; simp [List.append_assoc])
theorem St.owner {Fr : Rg} {ah : AH} {w : World} (s : St Fr ah w) {i : Nat} {x : Own} {b o : Nat} (hi : ah[i]? = some x) (hx : x.blk = some b) (h : Sof Fr ah b o) : x.reg b o := by
 have hxm := List.mem_of_getElem? hi
 rcases h with h | ⟨y, hy, hr⟩
 ·exact absurd h (s.fr x hxm b hx o)
 ·obtain ⟨e1, _⟩ := mem_split hi
  have hn := s.nodup
  rw [e1, List.filterMap_append, List.nodup_append, List.filterMap_cons, hx] at hn
  simp only at hn
  rw [e1] at hy
  have hyb := reg_blk hr
  rcases List.mem_append.1 hy with hy | hy
  ·exact absurd rfl (hn.2.2 b (List.mem_filterMap.2 ⟨y, hy, hyb⟩) b (by simp))
  ·rcases List.mem_cons.1 hy with rfl | hy
   ·exact hr
   ·exact absurd (List.mem_filterMap.2 ⟨y, hy, hyb⟩) (List.nodup_cons.1 hn.2.1).1
def srcOf : AV → Option (List AV)
 | .sl ys => some ys
 | .slt ys _ _ => some ys
 | _ => none
theorem srcOf_rel {S : Rg} {w : World} {v : AV} {u : Value} {ys : List AV} (h : Rel S w v u) (hs : srcOf v = some ys) : ∃ A c, u = .slice A ys.length c ∧ ys.length ≤ c ∧ c ≤ maxLen ∧ (ys ≠ [] → ∃ b o sz, A = some ⟨b, o, none⟩ ∧ RelRow S w ys sz b o) := by
 cases v <;> simp only [srcOf] at hs <;> try cases hs
 ·exact h.sl
 ·obtain ⟨h1, h2, h3, h4⟩ := h.slt
  refine ⟨_, _, h1, h2, h3, fun hx => ?_⟩
  obtain ⟨b', sz, rfl, hr⟩ := h4 hx
  exact ⟨b', 0, sz, rfl, hr⟩
theorem run_first {P : Program} {S : Rg} {w w' : World} {ys : List AV} {A : Option Addr} {c sz : Nat} (h : ys ≠ [] → ∃ b o sz, A = some ⟨b, o, none⟩ ∧ RelRow S w ys sz b o) (hsz : ∀ y ∈ ys, y.size = sz) (hw : w'.heap = w.heap) :
  ∃ ds : List Value, (Builtin.firstCells sz ys.length (.slice A ys.length c)).run P w' = .ok ds.toArray w' ∧ RelCs S w ys ds ∧ ds.length = ys.length * sz := by
 by_cases hy : ys = []
 ·subst hy
  refine ⟨[], ?_, by simp [RelCs], by simp⟩
  cases A <;> simp [Builtin.firstCells, loadCells, loadCellsFrom]
 ·obtain ⟨b, o, sz', rfl, hr⟩ := h hy
  obtain ⟨ds, h1, h2, h3, h4⟩ := hr.cells
  obtain ⟨y, ys', e⟩ := List.exists_cons_of_ne_nil hy
  have hz : sz' = sz := by rw [← h2 y (by simp [e]), hsz y (by simp [e])]
  subst hz
  refine ⟨ds, ?_, h1, h3⟩
  simp only [Builtin.firstCells, loadCells]
  rw [run_loadCellsFrom _ 0 ds #[] h3 (fun j v hj => by
   rw [addr_add]
   have := (h4 j v hj).2
   unfold World.cell? at this ⊢
   rw [hw]
   simpa using this)]
  simp
section
variable {P : Program} {af : AF} {ah : AH}
variable {d : Option Tmp} {T : TypeId} {ps : String} {es : Array Edge} {gd : Option (Nat × Bool)}
theorem AOp.append {x y : Operand} {xs ys : List AV} {tb : Option Nat} {tc i e sz bytes : Nat} {v : AV} {t t2 : TypeId} (hx : aeval af x = some (.slt xs tb tc)) (hi : ah[i]? = some (.tail tb xs.length tc sz)) (hy : aeval af y = some v) (hs : srcOf v = some ys)
  (ht : appTy P t = some (e, sz, bytes)) (ht2 : isSlTy P t2 = true) (hxs : ∀ x ∈ xs, x.size = sz) (hys : ∀ y ∈ ys, y.size = sz) (hok : AV.cellsOK ys = true) (hb : (xs.length + ys.length) * bytes ≤ 140737488355328) (h63 : xs.length + ys.length ≤ 9223372036854775807) :
  AOp P ⟨d, .call ⟨.builtin .append, #[x, y], #[t, t2]⟩, T, ps, es, gd⟩ af ah (fun r h => ∃ b' c', r = .ret (.slt (xs ++ ys) b' c') ∧ h = ah.set i (.tail b' (xs ++ ys).length c' sz)) := .mk fun Fr a w hst hf => by
 obtain ⟨hu, hl, hm, hrow⟩ := (aeval_rel hf hx).slt
 obtain ⟨A2, c2, hu2, hl2, hm2, hrow2⟩ := srcOf_rel (aeval_rel hf hy) hs
 have him := List.mem_of_getElem? hi
 have hpos : 0 < sz := by obtain ⟨_, _, _, _, _, _, _, _, h⟩ := appTy_parts ht; exact h
 have hexec : ∀ r, (Builtin.append_ #[t, t2] T #[.slice (tb.map fun b => ⟨b, 0, none⟩) xs.length tc, .slice A2 ys.length c2]).run P w = r → (execOp a.eval ⟨d, .call ⟨.builtin .append, #[x, y], #[t, t2]⟩, T, ps, es, gd⟩).run P w = r.andThen fun v w' => .ok (.value v) w' := by
  intro r hr
  simp only [execOp, resolve, invoke, builtin, Sem.run_bind, Sem.run_pure, Result.andThen_ok, List.map_toArray, List.map_cons, List.map_nil, hu, hu2, hr]
 by_cases hroom : xs.length + ys.length ≤ tc
 ·-- there is room
  obtain ⟨news, hn1, hn2, hn3⟩ := run_first (P := P) (w' := w) (c := c2) hrow2 hys rfl
  have hrun := run_append_room (ty := T) (base := tb.map fun b => ⟨b, 0, none⟩) (n := xs.length) ht ht2 hn1 hroom
  cases tb with
  | none =>
   obtain ⟨h1, h2⟩ := (show xs.length = 0 ∧ tc = 0 by simpa [OwnRel] using hst.rel _ him)
   have hy0 : ys = [] := List.eq_nil_of_length_eq_zero (by omega)
   have hx0 : xs = [] := List.eq_nil_of_length_eq_zero h1
   subst hy0; subst hx0; subst h2
   rw [hexec _ hrun]
   simp only [Option.map_none, Result.andThen_ok]
   obtain ⟨k1, k2, k3⟩ := hst.update (x' := .tail none 0 0 sz) hi (Ext.refl _ _) (fun b h => by cases h) (fun _ _ _ h => h) (fun b h => by cases h) (fun m => by simp [OwnRel])
   exact ⟨_, _, ⟨none, 0, rfl, rfl⟩, ⟨_, rfl, by simp [RelC, Value.cells, maxLen], by simp [Shape]⟩, k1, k2, k3⟩
  | some b =>
   obtain ⟨hnc, cs, tt, hh, hcs⟩ := (show xs.length ≤ tc ∧ ∃ cs t, w.heap[b]? = some (.cells cs t (0, 0)) ∧ tc * sz ≤ cs.size by simpa [OwnRel] using hst.rel _ him)
   have hfit : xs.length * sz + ys.length * sz ≤ cs.size := by rw [← Nat.add_mul]; exact Nat.le_trans (Nat.mul_le_mul_right _ hroom) hcs
   obtain ⟨w', r1, r2, r3, r4, e1, e2, e3⟩ := run_storeCells (P := P) (b := b) (t := tt) (xs.length * sz) news 0 w cs hh (by omega) (RelCs.cellOK ys news hn2 hok)
   simp only [Option.map_some, addr_add, Nat.zero_add, r1, Result.andThen_ok] at hrun
   rw [hexec _ hrun]
   simp only [Result.andThen_ok]
   simp only [Nat.add_zero] at r2
   have hlay : ∀ j, (lay cs.toList (xs.length * sz) news)[j]? = if j < xs.length * sz then cs.toList[j]? else if j < xs.length * sz + news.length then news[j - xs.length * sz]? else cs.toList[j]? := fun j => lay_get (by simp; omega)
   have hext : Ext (Own.tail (some b) xs.length tc sz).reg w w' := by
    refine ⟨e1, e2, e3, by omega, fun k hk hr => r3 k (fun e => hr (xs.length * sz) ⟨by rw [e], Nat.le_refl _⟩), fun ad v hc hr => ?_⟩
    by_cases e : ad.block = b
    ·have hlt : ad.off < xs.length * sz := by
      rcases Nat.lt_or_ge ad.off (xs.length * sz) with h | h
      ·exact h
      ·exact absurd ⟨by rw [e], h⟩ hr
     unfold World.cell? at hc ⊢
     rw [e, hh] at hc
     rw [e, r2]
     simp only at hc ⊢
     split at hc
     ·cases hc
     ·rename_i hsp
      rw [if_neg hsp, List.getElem?_toArray, hlay, if_pos hlt]
      simpa using hc
    ·exact (World.cell?_of_block (r3 ad.block e)).trans hc
   obtain ⟨k1, k2, k3⟩ := hst.update (x' := .tail (some b) (xs ++ ys).length tc sz) hi hext (fun k h => .inl h) (fun k o _ h => ⟨h.1, by have := h.2; simp [Nat.add_mul] at this; omega⟩)
    (fun k h => by simp only [Own.blk, Option.some.injEq] at h; subst h; exact Nat.lt_of_lt_of_le (hst.lt _ him b rfl) hext.size) (fun m => by
     show _ ∧ ∃ cs t, _ ∧ _
     exact ⟨by simpa using hroom, _, tt, r2, by simp [lay]; omega⟩)
   refine ⟨_, _, ⟨some b, tc, rfl, rfl⟩, ⟨_, rfl, ?_, by simp [Shape]⟩, k1, k2, k3⟩
   have m := Mv.of_ext (Fr := Fr) (ah' := ah.set i (.tail (some b) (xs ++ ys).length tc sz)) k2 (fun _ _ h => h) k3
   have hi' : (ah.set i (.tail (some b) (xs ++ ys).length tc sz))[i]? = some (.tail (some b) (xs ++ ys).length tc sz) := by
    rw [List.getElem?_set_self (List.getElem?_eq_some_iff.1 hi).1]
   show RelC _ _ (.slt _ _ _) [_]
   simp only [RelC]
   refine ⟨by simp, by simpa using hroom, hm, fun _ => ⟨b, sz, rfl, ?_⟩⟩
   refine RelRow.append ?_ ?_
   ·by_cases hx0 : xs = []
    ·subst hx0; simp [RelRow]
    ·obtain ⟨b', sz', hb', hr⟩ := hrow hx0
     obtain rfl := Option.some.inj hb'
     obtain ⟨_, _, hz, _⟩ := hr.cells
     obtain ⟨y, ys', e⟩ := List.exists_cons_of_ne_nil hx0
     have : sz' = sz := by rw [← hz y (by simp [e]), hxs y (by simp [e])]
     subst this
     exact RelRow.mv m _ _ _ _ hr
   ·refine RelRow.of_cells (RelCs.mv m _ _ hn2) hys fun j v hj => ⟨fun hS => ?_, ?_⟩
    ·have := k1.owner hi' rfl hS
     have h2 := this.2
     have hj' := (List.getElem?_eq_some_iff.1 hj).1
     simp [Nat.add_mul] at h2
     omega
    ·have hj' := (List.getElem?_eq_some_iff.1 hj).1
     rw [cell_of_row w' b _ _ tt (0, 0) r2, List.getElem?_toArray, hlay, if_neg (by omega), if_pos (by omega)]
     rwa [show 0 + xs.length * sz + j - xs.length * sz = j by omega]
 ·-- a new row
  obtain ⟨news, hn1, hn2, hn3⟩ := run_first (P := P) (w' := w.drew) (c := c2) hrow2 hys rfl
  have hrow' : xs ≠ [] → ∃ b o sz', (tb.map fun b => (⟨b, 0, none⟩ : Addr)) = some ⟨b, o, none⟩ ∧ RelRow (Sof Fr ah) w xs sz' b o := fun hx0 => by
   obtain ⟨b', sz', rfl, hr⟩ := hrow hx0
   exact ⟨b', 0, sz', rfl, hr⟩
  obtain ⟨olds, ho1, ho2, ho3⟩ := run_first (P := P) (w' := w.drew) (c := tc) hrow' hxs rfl
  obtain ⟨c', z, hc1, hc2, hzs, hrun⟩ := run_append_grow (ty := T) ht ht2 hn1 ho1 (by omega) hb (by simpa [maxLen] using h63)
  rw [hexec _ hrun]
  simp only [Result.andThen_ok]
  generalize hcs : olds.toArray ++ news.toArray ++ Builtin.zeroCells z.cells (c' - (xs.length + ys.length)) = cs
  have hcsz : cs.size = c' * sz := by
   rw [← hcs]
   simp only [Array.size_append, List.size_toArray, size_zeroCells, ho3, hn3, hzs, ← Nat.add_mul]
   congr 1
   omega
  have hext0 : Ext (fun _ _ => False) w (w.drew.alloc (.cells cs e)) :=
   ⟨rfl, rfl, rfl, by simp, fun k hk _ => Below.heap_alloc w.drew _ k hk, fun ad v hc _ => (World.cell?_alloc_lt w.drew _ ad (cell_lt hc)).trans hc⟩
  obtain ⟨k1, k2, k3⟩ := hst.update (x' := .tail (some w.heap.size) (xs ++ ys).length c' sz) hi (hext0.mono fun _ _ h => h.elim) (fun k h => .inr (by simp only [Own.blk, Option.some.injEq] at h; omega))
   (fun k o hk h => by have := h.1; simp only [Option.some.injEq] at this; omega) (fun k h => by simp only [Own.blk, Option.some.injEq] at h; subst h; simp) (fun m => by
    show _ ∧ ∃ cs t, _ ∧ _
    exact ⟨by simpa using hc1, cs, e, heap_alloc_new w.drew _, by omega⟩)
  refine ⟨_, _, ⟨some w.heap.size, c', rfl, rfl⟩, ⟨_, rfl, ?_, by simp [Shape]⟩, k1, k2, k3⟩
  have m := Mv.of_ext (Fr := Fr) (ah' := ah.set i (.tail (some w.heap.size) (xs ++ ys).length c' sz)) k2 (fun _ _ h => h) k3
  have hi' : (ah.set i (.tail (some w.heap.size) (xs ++ ys).length c' sz))[i]? = some (.tail (some w.heap.size) (xs ++ ys).length c' sz) := by
   rw [List.getElem?_set_self (List.getElem?_eq_some_iff.1 hi).1]
  have hall : ∀ x ∈ xs ++ ys, x.size = sz := fun x hx => by rcases List.mem_append.1 hx with h | h; exact hxs x h; exact hys x h
  show RelC _ _ (.slt _ _ _) [_]
  simp only [RelC]
  refine ⟨by simp, by simpa using hc1, hc2, fun _ => ⟨w.heap.size, sz, rfl, ?_⟩⟩
  refine RelRow.of_cells (RelCs.mv m _ _ (RelCs.append ho2 hn2)) hall fun j v hj => ⟨fun hS => ?_, ?_⟩
  ·have := k1.owner hi' rfl hS
   have h2 := this.2
   have hj' := (List.getElem?_eq_some_iff.1 hj).1
   simp [Nat.add_mul] at h2 hj'
   omega
  ·rw [cell_of_row _ w.heap.size _ cs e (0, 0) (heap_alloc_new w.drew _), ← hcs]
   have hj' := (List.getElem?_eq_some_iff.1 hj).1
   rw [Array.getElem?_append_left (by simpa using hj')]
   simpa using hj
end
section
variable {C : Cx} {ds : List Deferred} {ks : List K} {af : AF} {ah : AH} {ops : Array Oper} {rest : List Oper}
theorem AL.append {x y : Operand} {xs ys : List AV} {tb : Option Nat} {tc i e sz bytes dd : Nat} {v : AV} {t t2 T : TypeId} {ps : String} {es : Array Edge} (hx : aeval af x = some (.slt xs tb tc)) (hi : ah[i]? = some (.tail tb xs.length tc sz)) (hy : aeval af y = some v) (hs : srcOf v = some ys)
  (ht : appTy C.P t = some (e, sz, bytes)) (ht2 : isSlTy C.P t2 = true) (hxs : ∀ x ∈ xs, x.size = sz) (hys : ∀ y ∈ ys, y.size = sz) (hok : AV.cellsOK ys = true) (hb : (xs.length + ys.length) * bytes ≤ 140737488355328) (h63 : xs.length + ys.length ≤ 9223372036854775807) (hn : Nat.blt dd C.n = true)
  (hk : ∀ b' c', AL C ds ks ops rest ((dd, .slt (xs ++ ys) b' c') :: af) (ah.set i (.tail b' (xs ++ ys).length c' sz))) : AL C ds ks ops (⟨some dd, .call ⟨.builtin .append, #[x, y], #[t, t2]⟩, T, ps, es, none⟩ :: rest) af ah :=
 AL.step rfl hn (AOp.append hx hi hy hs ht ht2 hxs hys hok hb h63) (by rintro _ _ ⟨b', c', e, rfl⟩; injection e with e; subst e; exact hk b' c') (by rintro _ _ ⟨b', c', e, _⟩; cases e)
theorem Good.own_nil {a : Act} {w : World} (sz : Nat) (g : Good C ds af ah a w) : Good C ds af (.tail none 0 0 sz :: ah) a w := by
 have hreg : ∀ b o, reg (.tail none 0 0 sz :: ah) b o → reg ah b o := by
  rintro b o ⟨x, hx, hr⟩
  rcases List.mem_cons.1 hx with rfl | hx
  ·exact absurd hr.1 (by simp)
  ·exact ⟨x, hx, hr⟩
 have hs : ∀ b o, Sof C.Fr (.tail none 0 0 sz :: ah) b o → Sof C.Fr ah b o := fun b o h => h.imp id (hreg b o)
 refine ⟨g.size, g.defers, ⟨by rw [List.filterMap_cons_none (by rfl)]; exact g.st.nodup, ?_, ?_, g.st.frlt, ?_⟩, g.ext, fun b o hb hr => g.old b o hb (hreg b o hr), g.fr.mv (Mv.same w hs)⟩
 ·intro o ho b hb
  rcases List.mem_cons.1 ho with rfl | ho
  ·cases hb
  ·exact g.st.lt o ho b hb
 ·intro o ho b hb
  rcases List.mem_cons.1 ho with rfl | ho
  ·cases hb
  ·exact g.st.fr o ho b hb
 ·intro o ho
  rcases List.mem_cons.1 ho with rfl | ho
  ·simp [OwnRel]
  ·exact (g.st.rel o ho).mv (Mv.same w hs) fun _ _ => rfl
theorem AL.own_nil (sz : Nat) (k : AL C ds ks ops rest af (.tail none 0 0 sz :: ah)) : AL C ds ks ops rest af ah := .mk fun a w g => k.out a w (g.own_nil sz)
theorem AW.own_nil (sz : Nat) (k : AW C ds ks af (.tail none 0 0 sz :: ah)) : AW C ds ks af ah := .mk fun a w g => k.out a w (g.own_nil sz)
theorem Rel.as_sl {S : Rg} {w : World} {xs : List AV} {b : Option Nat} {c : Nat} {u : Value} (h : Rel S w (.slt xs b c) u) : Rel S w (.sl xs) u := by
 obtain ⟨rfl, h2, h3, h4⟩ := h.slt
 refine ⟨?_, by simp [Shape]⟩
 show RelC _ _ (.sl xs) [_]
 simp only [RelC]
 refine ⟨_, _, rfl, h2, h3, fun hx => ?_⟩
 obtain ⟨b', sz, rfl, hr⟩ := h4 hx
 exact ⟨b', 0, sz, rfl, hr⟩
theorem Good.as_sl {a : Act} {w : World} {d : Nat} {xs : List AV} {b : Option Nat} {c : Nat} (hd : get af d = some (.slt xs b c)) (g : Good C ds af ah a w) : Good C ds ((d, .sl xs) :: af) ah a w :=
 by
  refine { g with fr := fun i v hi => ?_ }
  rw [get_cons] at hi
  by_cases e : d = i
  ·subst e
   rw [if_pos rfl] at hi
   obtain rfl := Option.some.inj hi
   exact (g.fr d _ hd).as_sl
  ·rw [if_neg e] at hi
   exact g.fr i v hi
theorem AL.as_sl (d : Nat) {xs : List AV} {b : Option Nat} {c : Nat} (hd : get af d = some (.slt xs b c)) (k : AL C ds ks ops rest ((d, .sl xs) :: af) ah) : AL C ds ks ops rest af ah := .mk fun a w g => k.out a w (g.as_sl hd)
theorem AW.as_sl (d : Nat) {xs : List AV} {b : Option Nat} {c : Nat} (hd : get af d = some (.slt xs b c)) (k : AW C ds ks ((d, .sl xs) :: af) ah) : AW C ds ks af ah := .mk fun a w g => k.out a w (g.as_sl hd)
end
section
variable {P : Program} {af : AF} {ah : AH}
variable {d : Option Tmp} {T : TypeId} {ps : String} {es : Array Edge} {gd : Option (Nat × Bool)}
theorem rel_nil {S : Rg} {w : World} : Rel S w (.slt [] none 0) (.slice none 0 0) := ⟨by simp [RelC, Value.cells, maxLen], by simp [Shape]⟩
theorem AOp.assign_nil : AOp P ⟨d, .assign (.const (.slice none 0 0)), T, ps, es, gd⟩ af ah (D (.slt [] none 0) ah) := AOp.of_pure fun S a w hf _ => ⟨_, by simp [execOp]; rfl, rel_nil⟩
end
theorem lay_length {cs ds : List Value} {off : Nat} (h : off + ds.length ≤ cs.length) : (lay cs off ds).length = cs.length := by simp [lay]; omega
theorem lay_lay {cs a b : List Value} {off : Nat} (h : off + a.length + b.length ≤ cs.length) : lay (lay cs off a) (off + a.length) b = lay cs off (a ++ b) := by
 apply List.ext_getElem?
 intro j
 have h1 := lay_length (cs := cs) (ds := a) (off := off) (by omega)
 rw [lay_get (cs := lay cs off a) (ds := b) (off := off + a.length) (by rw [h1]; exact h), lay_get (cs := cs) (ds := a) (off := off) (by omega), lay_get (cs := cs) (ds := a ++ b) (off := off) (by rw [List.length_append]; omega)]
 simp only [List.length_append]
 by_cases h2 : j < off
 ·rw [if_pos (by omega), if_pos h2, if_pos h2]
 ·by_cases h3 : j < off + a.length
  ·rw [if_pos h3, if_neg h2, if_pos h3, if_neg h2, if_pos (by omega), List.getElem?_append_left (by omega)]
  ·by_cases h4 : j < off + a.length + b.length
   ·rw [if_neg h3, if_pos h4, if_neg h2, if_pos (by omega), List.getElem?_append_right (by omega)]
    congr 1; omega
   ·rw [if_neg h3, if_neg h4, if_neg h2, if_neg (by omega), if_neg h2, if_neg (by omega)]
theorem fill_seq {sz : Nat} : ∀ (vs : List Value) (k : Nat) (cells : Array Value), (∀ v ∈ vs, v.cells.size = sz) → (k + vs.length) * sz ≤ cells.size →
  Instr.fill (fun i => some (i * sz, sz)) cells ((vs.zipIdx k).map fun p => (p.2, p.1)) = some (lay cells.toList (k * sz) (vs.flatMap fun v => v.cells.toList)).toArray
 | [], k, cells, _, _ => by simp [Instr.fill, lay]
 | v :: vs, k, cells, h, hl => by
  simp only [List.length_cons] at hl
  have hv := h v (by simp)
  have e1 : (k + (vs.length + 1)) * sz = k * sz + sz + vs.length * sz := by rw [Nat.add_mul, Nat.add_mul]; omega
  have hflat : ∀ (l : List Value), (∀ v ∈ l, v.cells.size = sz) → (l.flatMap fun v => v.cells.toList).length = l.length * sz := by
   intro l
   induction l with
   | nil => simp
   | cons x l ih => intro h; simp [List.flatMap_cons, h x (by simp), ih (fun y hy => h y (by simp [hy])), Nat.add_mul, Nat.add_comm]
  have e3 : (k + 1 + vs.length) * sz = k * sz + sz + vs.length * sz := by rw [Nat.add_mul, Nat.add_mul]; omega
  rw [List.zipIdx_cons, List.map_cons]
  show Instr.fill _ _ ((k, v) :: _) = _
  rw [fill_step rfl hv (by omega), fill_seq vs (k + 1) _ (fun y hy => h y (by simp [hy])) (by rw [List.size_toArray, lay_length (by simp [hv]; omega)]; simp; omega)]
  have e2 : (k + 1) * sz = k * sz + v.cells.toList.length := by rw [Nat.add_mul]; simp [hv]
  simp only [List.toList_toArray]
  rw [e2, lay_lay (by rw [hflat vs (fun y hy => h y (by simp [hy]))]; simp [hv]; omega), List.flatMap_cons]
def litTy (P : Program) (T : TypeId) : Option (Nat × Nat) := match P.underlying T with
 | some (.slice e) => match P.info? e with
  | some i => match i.zero with
   | some z => bif Nat.beq z.cells.size i.size && Nat.blt 0 i.size then some (e, i.size) else none
   | none => none
  | none => none
 | _ => none
theorem litTy_parts {P : Program} {T e sz : Nat} (h : litTy P T = some (e, sz)) : P.underlying T = some (.slice e) ∧ ∃ i z, P.info? e = some i ∧ i.zero = some z ∧ z.cells.size = sz ∧ i.size = sz ∧ 0 < sz := by
 unfold litTy at h
 split at h
 ·rename_i e' hu
  split at h
  ·rename_i i hi
   split at h
   ·rename_i z hz
    obtain ⟨h1, h2⟩ := cond_some h
    simp only [Prod.mk.injEq] at h2
    obtain ⟨rfl, rfl⟩ := h2
    simp only [Bool.and_eq_true, nbeq_iff] at h1
    exact ⟨hu, i, z, hi, hz, h1.1, rfl, by simpa using h1.2⟩
   ·cases h
  ·cases h
 ·cases h
theorem RelVs.flat {S : Rg} {w : World} : ∀ {xs : List AV} {us : List Value}, RelVs S w xs us → RelCs S w xs (us.flatMap fun v => v.cells.toList)
 | [], us, h => by simp only [RelVs] at h; subst h; simp [RelCs]
 | x :: xs, us, h => by
  simp only [RelVs] at h
  obtain ⟨u, us', rfl, h1, h2, h3⟩ := h
  simp only [List.flatMap_cons, RelCs]
  exact ⟨_, _, rfl, h1, RelVs.flat h3⟩
def litOps : Nat → List (Nat × Operand) → Option (List Operand)
 | _, [] => some []
 | k, (i, x) :: r => bif Nat.beq i k then (litOps (k + 1) r).map (x :: ·) else none
theorem litOps_eq : ∀ {k : Nat} {l : List (Nat × Operand)} {xs : List Operand}, litOps k l = some xs → ∀ (ρ : Operand → Value), l.map (fun (i, x) => (i, ρ x)) = ((xs.map ρ).zipIdx k).map fun p => (p.2, p.1)
 | k, [], xs, h, ρ => by simp only [litOps, Option.some.injEq] at h; subst h; simp
 | k, (i, x) :: l, xs, h, ρ => by
  simp only [litOps] at h
  cases hb : Nat.beq i k with
  | false => rw [hb] at h; cases h
  | true =>
   rw [hb] at h
   simp only [cond_true, Option.map_eq_some_iff] at h
   obtain ⟨ys, h, rfl⟩ := h
   have e := nbeq_iff.1 hb
   subst e
   simp only [List.map_cons, List.zipIdx_cons]
   rw [litOps_eq h ρ]
section
variable {P : Program} {af : AF} {ah : AH}
variable {d : Option Tmp} {T : TypeId} {ps : String} {es : Array Edge} {gd : Option (Nat × Bool)}
theorem run_buildSlice {t e sz n : Nat} {parts : Array (Nat × Operand)} {xs : List Operand} {vs : List AV} (ht : litTy P t = some (e, sz)) (hp : litOps 0 parts.toList = some xs) (hx : aevals af xs = some vs) (hn : vs.length = n) (hsz : ∀ v ∈ vs, v.size = sz) (hb : n * sz ≤ 16777216)
  {S : Rg} {a : Act} {w : World} (hf : AFRel S w af a) : ∃ cs : List Value, RelCs S w vs cs ∧ cs.length = n * sz ∧
   (execOp a.eval ⟨d, .buildSlice t n parts, T, ps, es, gd⟩).run P w = .ok (.value (.slice (some ⟨w.heap.size, 0, none⟩) n n)) (w.alloc (.cells cs.toArray e)) := by
 obtain ⟨hu, i, z, hi, hz, hzs, hsi, hpos⟩ := litTy_parts ht
 have hr := aevals_rel hf hx
 have hl := hr.length
 have hcs := hr.flat
 have hcl : ∀ v ∈ xs.map a.eval, v.cells.size = sz := fun v hv => by
  obtain ⟨j, hj⟩ := List.getElem?_of_mem hv
  have hjl : j < vs.length := by rw [← hl]; exact (List.getElem?_eq_some_iff.1 hj).1
  obtain ⟨u, h1, h2⟩ := hr.get j vs[j] (List.getElem?_eq_getElem hjl)
  rw [hj] at h1
  obtain rfl := Option.some.inj h1
  have := RelC.size _ _ h2.1
  rw [hsz _ (List.getElem_mem hjl)] at this
  simpa using this
 have hlen : (xs.map a.eval).length = n := by rw [hl, hn]
 refine ⟨_, hcs, ?_, ?_⟩
 ·have hflat : ∀ (l : List Value), (∀ v ∈ l, v.cells.size = sz) → (l.flatMap fun v => v.cells.toList).length = l.length * sz := by
   intro l
   induction l with
   | nil => simp
   | cons x l ih => intro h; simp [List.flatMap_cons, h x (by simp), ih (fun y hy => h y (by simp [hy])), Nat.add_mul, Nat.add_comm]
  rw [hflat _ hcl, hlen]
 ·have hpl : (Array.map (fun x : Nat × Operand => (x.1, a.eval x.2)) parts).toList = ((xs.map a.eval).zipIdx 0).map fun p => (p.2, p.1) := by
   rw [← litOps_eq hp a.eval]; simp
  have hfill : ∀ cells : Array Value, cells.size = n * sz → Instr.fill (fun i => some (i * sz, sz)) cells (((xs.map a.eval).zipIdx 0).map fun p => (p.2, p.1)) = some (List.flatMap (fun v => v.cells.toList) (List.map a.eval xs)).toArray := fun cells hc => by
   rw [fill_seq _ 0 cells hcl (by rw [hlen, hc]; simp)]
   have hflat : ∀ (l : List Value), (∀ v ∈ l, v.cells.size = sz) → (l.flatMap fun v => v.cells.toList).length = l.length * sz := by
    intro l
    induction l with
    | nil => simp
    | cons x l ih => intro h; simp [List.flatMap_cons, h x (by simp), ih (fun y hy => h y (by simp [hy])), Nat.add_mul, Nat.add_comm]
   rw [Nat.zero_mul, lay_zero (by rw [hflat _ hcl, hlen, Array.length_toList, hc])]
  have hbb : ¬ (n * sz > 2 ^ 24) := by omega
  have hzero : (zeroValue e).run P w = .ok z w := by simp [zeroValue, typeInfo, hi, hz]
  have hsize : (sizeOf e).run P w = .ok sz w := by simp [sizeOf, typeInfo, hi, hsi]
  simp only [execOp, Instr.buildSlice, Sem.run_bind, run_underlying hu, Result.andThen_ok, hsize, Sem.run_pure, if_neg hbb]
  by_cases h0 : n * sz = 0
  ·rw [hpl]
   simp only [h0, if_true, pure_bind, Sem.run_pure, Result.andThen_ok]
   rw [hfill _ (by simp [h0])]
   simp [newRow, newObj, Sem.run]
  ·rw [hpl]
   simp only [h0, if_false, pure_bind, Sem.run_bind, Sem.run_pure, Result.andThen_ok, hzero]
   rw [hfill _ (by simp)]
   simp [newRow, newObj, Sem.run]
theorem AOp.lit {t e sz n : Nat} {parts : Array (Nat × Operand)} {xs : List Operand} {vs : List AV} (ht : litTy P t = some (e, sz)) (hp : litOps 0 parts.toList = some xs) (hx : aevals af xs = some vs) (hn : vs.length = n) (hsz : ∀ v ∈ vs, v.size = sz) (hb : n * sz ≤ 16777216) :
  AOp P ⟨d, .buildSlice t n parts, T, ps, es, gd⟩ af ah (D (.sl vs) ah) := .mk fun Fr a w hst hf => by
 obtain ⟨cs, h1, h2, h3⟩ := run_buildSlice (d := d) (T := T) (ps := ps) (es := es) (gd := gd) ht hp hx hn hsz hb hf
 rw [h3]
 have hx' : Ext (fun _ _ => False) w (w.alloc (.cells cs.toArray e)) := Ext.alloc _ _ _
 have m := Mv.of_ext (Fr := Fr) (ah := ah) (ah' := ah) hx' (fun _ _ h => h.elim) (fun _ _ _ h => h)
 refine ⟨_, _, ⟨rfl, rfl⟩, ⟨_, rfl, ?_, by simp [Shape]⟩, hst.grow hx', hx'.mono (fun _ _ h => h.elim), fun _ _ _ h => h⟩
 show RelC _ _ (.sl vs) [_]
 obtain ⟨_, _, _, _, _, _, _, hpos⟩ := litTy_parts ht
 simp only [RelC]
 refine ⟨_, n, by rw [hn], by omega, by unfold maxLen; have := Nat.le_mul_of_pos_right n hpos; omega, fun _ => ⟨w.heap.size, 0, sz, rfl, ?_⟩⟩
 refine RelRow.of_cells (RelCs.mv m _ _ h1) hsz fun j v hj => ⟨?_, ?_⟩
 ·rintro (h | ⟨y, hy, h⟩)
  ·have := hst.frlt _ _ h; omega
  ·have := hst.lt y hy _ (reg_blk h); omega
 ·rw [World.cell?_alloc_new]; simpa using hj
theorem AOp.lit_own {t e sz n : Nat} {parts : Array (Nat × Operand)} {xs : List Operand} {vs : List AV} (ht : litTy P t = some (e, sz)) (hp : litOps 0 parts.toList = some xs) (hx : aevals af xs = some vs) (hn : vs.length = n) (hsz : ∀ v ∈ vs, v.size = sz) (hb : n * sz ≤ 16777216) :
  AOp P ⟨d, .buildSlice t n parts, T, ps, es, gd⟩ af ah (fun r h => ∃ b, r = .ret (.slt vs (some b) n) ∧ h = .tail (some b) n n sz :: ah) := .mk fun Fr a w hst hf => by
 obtain ⟨cs, h1, h2, h3⟩ := run_buildSlice (d := d) (T := T) (ps := ps) (es := es) (gd := gd) ht hp hx hn hsz hb hf
 rw [h3]
 have hx' : Ext (fun _ _ => False) w (w.alloc (.cells cs.toArray e)) := Ext.alloc _ _ _
 obtain ⟨k1, k2, k3⟩ := hst.cons (x := .tail (some w.heap.size) n n sz) (b := w.heap.size) rfl (Nat.le_refl _) (by simp) hx' (fun m => by
  show _ ∧ ∃ cs t, _ ∧ _
  exact ⟨Nat.le_refl _, _, e, heap_alloc_new w _, by simp [h2]⟩)
 have m := Mv.of_ext (Fr := Fr) (ah := ah) (ah' := .tail (some w.heap.size) n n sz :: ah) k2 (fun _ _ h => h) k3
 refine ⟨_, _, ⟨w.heap.size, rfl, rfl⟩, ⟨_, rfl, ?_, by simp [Shape]⟩, k1, k2, k3⟩
 show RelC _ _ (.slt _ _ _) [_]
 obtain ⟨_, _, _, _, _, _, _, hpos⟩ := litTy_parts ht
 simp only [RelC]
 refine ⟨by simp [hn], by omega, by unfold maxLen; have := Nat.le_mul_of_pos_right n hpos; omega, fun _ => ⟨w.heap.size, sz, rfl, ?_⟩⟩
 refine RelRow.of_cells (RelCs.mv m _ _ h1) hsz fun j v hj => ⟨fun hS => ?_, ?_⟩
 ·have := k1.owner (i := 0) rfl rfl hS
  have h5 := this.2
  have hj' := (List.getElem?_eq_some_iff.1 hj).1
  omega
 ·rw [World.cell?_alloc_new]; simpa using hj
theorem RelRow.take {S : Rg} {w : World} : ∀ {xs : List AV} {sz b o : Nat} (n : Nat), RelRow S w xs sz b o → RelRow S w (xs.take n) sz b o
 | [], _, _, _, n, _ => by simp [RelRow]
 | x :: xs, sz, b, o, 0, _ => by simp [RelRow]
 | x :: xs, sz, b, o, n + 1, h => by simp only [RelRow, List.take_succ_cons] at h ⊢; exact ⟨h.1, RelRow.take n h.2⟩
theorem RelRow.drop {S : Rg} {w : World} : ∀ {xs : List AV} {sz b o : Nat} (n : Nat), RelRow S w xs sz b o → RelRow S w (xs.drop n) sz b (o + n * sz)
 | [], _, _, _, n, _ => by simp [RelRow]
 | x :: xs, sz, b, o, 0, h => by simpa using h
 | x :: xs, sz, b, o, n + 1, h => by
  simp only [RelRow, List.drop_succ_cons] at h ⊢
  have := RelRow.drop n h.2
  rwa [show o + sz + n * sz = o + (n + 1) * sz by rw [Nat.add_mul]; omega] at this
def bndIs (af : AF) : Option Operand → Nat → Nat → Prop
 | none, dflt, n => n = dflt
 | some x, _, n => ∃ k, aeval af x = some (.int k (n : Int))
theorem bndIs.none {n : Nat} : bndIs af none n n := rfl
theorem bndIs.some {x : Operand} {m n : Nat} {k : IntKind} {i : Int} (h : aeval af x = some (.int k i)) (e : i = (n : Int)) : bndIs af (some x) m n := ⟨k, e ▸ h⟩
theorem run_bounds {lo hi : Option Operand} {l h len c : Nat} {sl : Bool} {S : Rg} {w : World} {a : Act} (hf : AFRel S w af a) (el : bndIs af lo 0 l) (eh : bndIs af hi len h) (hlh : l ≤ h) (hc : h ≤ c) :
  (Instr.sliceBounds sl len c (lo.map a.eval) (hi.map a.eval) none).run P w = .ok (l, h, c) w := by
 cases lo with
 | none =>
  simp only [bndIs] at el
  subst el
  cases hi with
  | none => simp only [bndIs] at eh; subst eh; simp [Instr.sliceBounds]
  | some y =>
   obtain ⟨k, hy⟩ := eh
   simp [Instr.sliceBounds, Instr.sliceBound, asIntOf, (aeval_rel hf hy).int, hc]
 | some x =>
  obtain ⟨k, hx⟩ := el
  cases hi with
  | none => simp only [bndIs] at eh; subst eh; simp [Instr.sliceBounds, Instr.sliceBound, asIntOf, (aeval_rel hf hx).int, hlh]
  | some y =>
   obtain ⟨k', hy⟩ := eh
   simp [Instr.sliceBounds, Instr.sliceBound, asIntOf, (aeval_rel hf hx).int, (aeval_rel hf hy).int, hc, hlh]
theorem AOp.cut {x : Operand} {lo hi : Option Operand} {xs : List AV} {l h sz : Nat} {v : AV} {t : TypeId} (hx : aeval af x = some v) (hs : srcOf v = some xs) (ht : esize P t = some sz) (hsz : ∀ x ∈ xs, x.size = sz)
  (el : bndIs af lo 0 l) (eh : bndIs af hi xs.length h) (hlh : l ≤ h) (hle : h ≤ xs.length) :
  AOp P ⟨d, .slice t x lo hi none, T, ps, es, gd⟩ af ah (D (.sl ((xs.take h).drop l)) ah) := AOp.of_pure fun S a w hf _ => by
 obtain ⟨A, c, hu, hlen, hm, hrow⟩ := srcOf_rel (aeval_rel hf hx) hs
 unfold esize at ht
 split at ht
 ·rename_i e hut
  cases hi' : P.info? e with
  | none => simp [hi'] at ht
  | some i =>
   simp only [hi', Option.map_some, Option.some.injEq] at ht
   have hb := run_bounds (P := P) (c := c) (sl := true) hf el eh hlh (by omega)
   have hrun : (execOp a.eval ⟨d, .slice t x lo hi none, T, ps, es, gd⟩).run P w = .ok (.value (.slice (if c = l then A else A.map (·.add (l * sz))) (h - l) (c - l))) w := by
    simp [execOp, Instr.sliceAt, run_underlying hut, Instr.slice, hu, hb, sizeOf, typeInfo, hi', ht]
   refine ⟨_, hrun, ?_, by simp [Shape]⟩
   show RelC _ _ (.sl _) [_]
   simp only [RelC]
   have hln : ((xs.take h).drop l).length = h - l := by simp; omega
   refine ⟨_, c - l, by rw [hln], by rw [hln]; omega, by omega, fun hne => ?_⟩
   have hlt : l < h := by
    rcases Nat.lt_or_ge l h with h' | h'
    ·exact h'
    ·exact absurd (List.eq_nil_of_length_eq_zero (by rw [hln]; omega)) hne
   have hxne : xs ≠ [] := fun e => by subst e; simp at hle; omega
   obtain ⟨b, o, sz', rfl, hr⟩ := hrow hxne
   obtain ⟨_, _, hz, _⟩ := hr.cells
   obtain ⟨y, ys', e⟩ := List.exists_cons_of_ne_nil hxne
   have hzz : sz' = sz := by rw [← hz y (by simp [e]), hsz y (by simp [e])]
   subst hzz
   rw [if_neg (by omega)]
   exact ⟨b, o + l * sz', sz', by simp [addr_add], (hr.take h).drop l⟩
 ·cases ht
end
end Go.SX
