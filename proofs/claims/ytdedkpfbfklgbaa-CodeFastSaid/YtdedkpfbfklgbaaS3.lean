/- The library of abstract walks, part 3. -/
import Derived.Test.YtdedkpfbfklgbaaS2
import Derived.Recover
import Derived.Lib.AppendZerosOnto
namespace Go.SX
open Go.RowKit
set_option linter.unusedVariables false
set_option linter.unusedSimpArgs false

/-- What recover yields in a deferred call, and the caller's mode behind it. -/
def recMode : FrameMode → Value × FrameMode
  | .panicking ({ v, recovered := false, goexit := false } :: older) => (v, .panicking ({ v, recovered := true } :: older))
  | u => (.nilIface, u)
theorem wpOpsS_of {P : Program} {ops : Array Oper} {Q : Exit → Act → World → Prop} {Q' : Exit → Act → List Frame → World → Prop} {cs : List Frame} (hout : ¬ LetsOut Q) (hQ : ∀ e a w, Q e a w → Q' e a cs w) : ∀ (l : List Oper) (k : Nat), (∀ j, l[j]? = ops[k + j]?) → ∀ (a : Act) (w : World), wpList P ops Q l a w → wpOpsS P ops Q' (List.range' k l.length) a cs w := by
  intro l
  induction l with
  | nil => intro k _ a w h; simpa [wpOpsS, wpList] using hQ _ _ _ h
  | cons o l ih =>
    intro k h a w hw
    have h0 : ops[k]? = some o := by simpa using (h 0).symm
    have ih' := ih (k + 1) (fun j => by have := h (j + 1); simpa [Nat.add_assoc, Nat.add_comm 1 j] using this)
    simp only [List.length_cons, List.range'_succ, wpOpsS, h0]
    unfold wpList at hw
    split at hw
    · rename_i hwant
      rw [if_pos hwant]
      rcases hw with hw | hw
      · unfold Oper.wp at hw
        generalize (execOp a.eval o).run P w = r at hw ⊢
        cases r with
        | ok nx w' =>
          cases nx
          case value v => simp only [Oper.upon] at hw ⊢; exact ih' _ _ hw
          case skip => simp only [Oper.upon] at hw ⊢; exact ih' _ _ hw
          case defer d => simp only [Oper.upon] at hw ⊢; exact ih' _ _ hw
          case enter f args =>
            simp only [Oper.upon] at hw ⊢
            refine Calls.mono hw fun e w'' he => ?_
            cases e with
            | returned v => exact ih' _ _ he
            | panicked ch => exact hQ _ _ _ he
            | outgrown => exact (hout he).elim
          case row rw args =>
            simp only [Oper.upon] at hw ⊢
            intro b cs2
            obtain ⟨v, w'', h1, h2⟩ := hw b cs2
            exact ⟨v, w'', ih' _ _ h1, h2⟩
          all_goals exact hw.elim
        | halt x w' =>
          cases x
          case panic v => simp only [Oper.upon] at hw ⊢; exact hQ _ _ _ hw
          all_goals exact hw.elim
      · exact (hout hw.2).elim
    · rename_i hwant
      rw [if_neg hwant]
      exact ih' _ _ hw
theorem run_recover {P : Program} {a : Act} {w : World} {o : Oper} {tys : Array TypeId} (ho : o.op = .call ⟨.builtin .recover, #[], tys⟩) : (execOp a.eval o).run P w = .ok .recover w := by
  obtain ⟨d, op, T, ps, es, gd⟩ := o
  simp only at ho
  subst ho
  simp [execOp, resolve, invoke, builtin]
theorem TriD.enterR {P : Program} {f : FuncId} {args : List AV} {ah : AH} {u : FrameMode} {Φ : AH → Prop} {fn : Func} {id : Nat} {ops : Array Oper} {y : Code} {o : Oper} {rest : List Oper} {d : Nat} {tys : Array TypeId} (n : Nat) (hf : P.funcs[f]? = some fn) (hb : fn.body = some (.seq (.region id ops false) y))
    (hname : (fn.name == "runtime.NumGoroutine") = false) (hn : fn.ntmps = n) (hl : Nat.ble args.length n = true) (hops : ops.toList = o :: rest) (ho : o.op = .call ⟨.builtin .recover, #[], tys⟩) (hg : o.guard = none) (hd : o.dst = some d) (hdn : Nat.blt d n = true)
    (h : ∀ Fr w0, AL (Cof P fn n Fr (reg ah) w0 (fun x h => (∃ v, x = .ret v) ∧ Φ h)) [] [.c y] ops rest ((d, .val (recMode u).1) :: enumFrom 0 args) ah) : TriD P f args ah u (fun u' h => u' = (recMode u).2 ∧ Φ h) := by
  refine ⟨⟨fn, hf, hname, by rw [hb]; rfl⟩, fun Fr w vs hst hrel => ?_⟩
  have hlen := hrel.length
  have hl' : args.length ≤ n := by simpa using hl
  have hfr : AFRel (Sof Fr ah) w (enumFrom 0 args) { tmps := vs.toArray ++ Array.replicate (fn.ntmps - vs.toArray.size) undef, defers := [] } := by
    intro i v hi
    obtain ⟨_, hx⟩ := get_enumFrom args 0 i v hi
    obtain ⟨u, hu, hr⟩ := hrel.get i v (by simpa using hx)
    have : (vs.toArray ++ Array.replicate (fn.ntmps - vs.toArray.size) undef).getD i undef = u := by
      have hlt : i < vs.length := (List.getElem?_eq_some_iff.1 hu).1
      rw [Array.getD_eq_getD_getElem?, Array.getElem?_append_left (by simpa using hlt)]
      simp [hu]
    rw [this]; exact hr
  have hgood : Good (Cof P fn n Fr (reg ah) w (fun x h => (∃ v, x = .ret v) ∧ Φ h)) [] (enumFrom 0 args) ah { tmps := vs.toArray ++ Array.replicate (fn.ntmps - vs.toArray.size) undef, defers := [] } w :=
    ⟨by simp [hn]; omega, rfl, hst, Ext.refl _ _, fun _ _ _ h => h, hfr⟩
  have hput := hgood.next (d := some d) (v := .val (recMode u).1) (u := (recMode u).1) hdn ⟨by simp [RelC], by simp [Shape]⟩ hst (Ext.refl _ _) (fun _ _ _ h => h)
  have hwp := (h Fr w).out _ w hput
  refine callsD_of_wpS hf hb fun c₀ cs hu => wpS_seq (wpS_region ?_)
  have hsz : ops.size = rest.length + 1 := by rw [← Array.length_toList, hops]; rfl
  have h0 : ops[0]? = some o := by rw [← Array.getElem?_toList, hops]; rfl
  rw [hsz, List.range_eq_range', List.range'_succ]
  simp only [wpOpsS, h0, Region.wanted, hg, if_true, run_recover ho]
  have hout : ¬ LetsOut (hnd P (bodyPost P fn (EndR Fr (reg ah) w (fun x h => (∃ v, x = .ret v) ∧ Φ h))) [.c y]) := by
    rintro ⟨a, w', hh⟩
    simp only [hnd, bodyPost, EndR] at hh
    obtain ⟨x, ah', _, he, _⟩ := hh
    cases x <;> (simp only [EndRel] at he; obtain ⟨v, e, _⟩ := he; cases e)
  have fin : ∀ cs', (∃ u', cs' = { c₀ with mode := u' } :: cs ∧ u' = (recMode u).2) → wpOpsS P ops (Exit.thenS (y.wpS P (bodyPostS P fn c₀ cs fun e u' w' => (∃ v, e = .returned v) ∧ ∃ ah', (u' = (recMode u).2 ∧ Φ ah') ∧ St Fr ah' w' ∧ Ext (reg ah) w w' ∧ ∀ b o, b < w.heap.size → reg ah' b o → reg ah b o)) (bodyPostS P fn c₀ cs fun e u' w' => (∃ v, e = .returned v) ∧ ∃ ah', (u' = (recMode u).2 ∧ Φ ah') ∧ St Fr ah' w' ∧ Ext (reg ah) w w' ∧ ∀ b o, b < w.heap.size → reg ah' b o → reg ah b o)) (List.range' 1 rest.length)
      (({ tmps := vs.toArray ++ Array.replicate (fn.ntmps - vs.toArray.size) undef, defers := [] } : Act).put (some d) (recMode u).1) cs' w := by
    rintro cs' ⟨u', rfl, hu'⟩
    have hconv : ∀ e a w', bodyPost P fn (EndR Fr (reg ah) w (fun x h => (∃ v, x = .ret v) ∧ Φ h)) e a w' → bodyPostS P fn c₀ cs (fun e u' w' => (∃ v, e = .returned v) ∧ ∃ ah', (u' = (recMode u).2 ∧ Φ ah') ∧ St Fr ah' w' ∧ Ext (reg ah) w w' ∧ ∀ b o, b < w.heap.size → reg ah' b o → reg ah b o) e a ({ c₀ with mode := u' } :: cs) w' := by
      intro e a w' hh
      cases e with
      | normal =>
        obtain ⟨hd, v, hr, x, ah', ⟨⟨xv, rfl⟩, hΦ⟩, he, k1, k2, k3⟩ := hh
        exact ⟨hd, u', rfl, v, hr, ⟨v, rfl⟩, ah', ⟨hu', hΦ⟩, k1, k2, k3⟩
      | ret =>
        obtain ⟨hd, v, hr, x, ah', ⟨⟨xv, rfl⟩, hΦ⟩, he, k1, k2, k3⟩ := hh
        exact ⟨hd, u', rfl, v, hr, ⟨v, rfl⟩, ah', ⟨hu', hΦ⟩, k1, k2, k3⟩
      | panic ch =>
        obtain ⟨hd, x, ah', ⟨⟨xv, rfl⟩, hΦ⟩, he, _⟩ := hh
        obtain ⟨v, e, _⟩ := he
        cases e
      | outgrown =>
        obtain ⟨x, ah', ⟨⟨xv, rfl⟩, hΦ⟩, he, _⟩ := hh
        obtain ⟨v, e, _⟩ := he
        cases e
      | exit id => exact hh.elim
      | goto l => exact hh.elim
    refine wpOpsS_of (Q := hnd P (bodyPost P fn (EndR Fr (reg ah) w (fun x h => (∃ v, x = .ret v) ∧ Φ h))) [.c y]) hout (fun e a w' hh => ?_) rest 1 (fun j => ?_) _ _ hwp
    · cases e with
      | normal =>
        simp only [hnd] at hh
        refine wpS_of_wp (Code.wp_mono (fun e a w' hq => ?_) hh)
        exact hconv e a w' (by cases e <;> simpa [hnd] using hq)
      | _ => simp only [hnd] at hh; exact hconv _ a w' hh
    · rw [← Array.getElem?_toList, hops, Nat.add_comm]; rfl
  have hrec : recoverD (c₀ :: cs) = some ((recMode u).1, { c₀ with mode := (recMode u).2 } :: cs) ∨ (recoverD (c₀ :: cs) = none ∧ (recMode u).1 = .nilIface ∧ (recMode u).2 = u) := by
    subst hu
    unfold recoverD
    simp only
    split
    · rename_i v older hm
      rw [hm]
      exact .inl rfl
    · rename_i hne
      refine .inr ⟨rfl, ?_⟩
      unfold recMode
      split
      · rename_i hm; exact (hne _ _ hm).elim
      · exact ⟨rfl, rfl⟩
  rcases hrec with e | ⟨e, e1, e2⟩
  · rw [e]
    simp only [hd]
    exact fin _ ⟨_, rfl, rfl⟩
  · rw [e]
    simp only [hd]
    rw [← e1]
    exact fin _ ⟨u, by rw [← hu], e2.symm⟩

section
variable {P : Program} {af : AF} {ah : AH} {d : Option Tmp} {T : TypeId} {ps : String} {es : Array Edge} {gd : Option (Nat × Bool)}
/-- x.(T) with ok, of a value that has the type T, no interface. -/
theorem AOp.assert_yes {x : Operand} {xT t : TypeId} {c : Value} {v : AV} (hx : aeval af x = some (.val (.iface t c))) (ht : plainTy P t = true) (hv : ∀ S w, Rel S w v c) : AOp P ⟨d, .typeAssert x xT t true, T, ps, es, gd⟩ af ah (D (.tup [v, .bool true]) ah) :=
  AOp.of_pure fun S a w hfr _ => by
    have hu := (aeval_rel hfr hx).val
    refine ⟨.tuple #[c, .bool true], ?_, rel_pair (hv S w)⟩
    unfold plainTy at ht
    simp only [execOp, Instr.typeAssert, hu]
    cases hut : P.underlying t with
    | none => rw [hut] at ht; cases ht
    | some k =>
      rw [hut] at ht
      cases k <;> simp_all [run_underlying hut]
theorem AOp.assert_nil {x : Operand} {xT t : TypeId} {z : AV} {zv : Value} (hx : aeval af x = some (.val .nilIface)) (ht : plainTy P t = true) (hz : (P.info? t).bind (·.zero) = some zv) (hv : ∀ S w, Rel S w z zv) : AOp P ⟨d, .typeAssert x xT t true, T, ps, es, gd⟩ af ah (D (.tup [z, .bool false]) ah) :=
  AOp.of_pure fun S a w hfr _ => by
    have hu := (aeval_rel hfr hx).val
    refine ⟨.tuple #[zv, .bool false], ?_, rel_pair (hv S w)⟩
    unfold plainTy at ht
    simp only [execOp, Instr.typeAssert, hu]
    cases hut : P.underlying t with
    | none => rw [hut] at ht; cases ht
    | some k =>
      rw [hut] at ht
      cases hi : P.info? t with
      | none => rw [hi] at hz; cases hz
      | some ii =>
        rw [hi] at hz
        have hz' : ii.zero = some zv := hz
        have hzr : (zeroValue t).run P w = .ok zv w := by simp [zeroValue, typeInfo, hi, hz']
        cases k <;> simp_all [run_underlying hut]
end
section
variable {P : Program} {fn : Func} {n : Nat} {Fr R0 : Rg} {w0 : World} {Φ : AEnd → AH → Prop} {ks : List K} {af : AF} {ah : AH} {ds : List Deferred}
/-- A panic over one deferred call that recovers. -/
theorem APanF.of1 {v : AV} {c : Value} {f : FuncId} {caps : List AV} {cs : List Value} (hv : conc v = some c) (hc : concs caps = some cs) (h : TriD P f caps ah (.panicking [{ v := c, recovered := false }]) (fun u' h => settle u' = .returning ∧ ∃ vs, ResC P h af fn.results.toList vs ∧ Φ (.ret (resv vs)) h)) :
    APanF (CofD P fn n Fr R0 w0 Φ) [{ target := .fn (.func f) cs.toArray, args := #[] }] v af ah := .mk fun a w u g hu => by
  have e := conc_rel hu hv
  subst e
  show Leaves _ _ _ _ a.defers _ _
  rw [g.defers]; exact leave1 g (by simp) hc h
end
end Go.SX
namespace Go.SX
open Go.RowKit
set_option linter.unusedVariables false
set_option linter.unusedSimpArgs false
section
variable {C : Cx} {ds : List Deferred} {ks : List K} {af : AF} {ah : AH} {ops : Array Oper} {rest : List Oper}
theorem AL.range (i e : Nat) (kd : TypeDesc) {dd : Nat} {x : Operand} {b : Nat} {kv : List (AV × AV)} {g : MG} {t T : TypeId} {ps : String} {es : Array Edge} (hx : aeval af x = some (.map b)) (hi : ah[i]? = some (.map b kv g)) (ht : mapTy C.P t = some (kd, e)) (hn : Nat.blt dd C.n = true)
    (hk : ∀ it, AL C ds ks ops rest ((dd, .ref it 0) :: af) (.iter it b g.clk [] :: ah)) : AL C ds ks ops (⟨some dd, .range t x, T, ps, es, none⟩ :: rest) af ah :=
  AL.step rfl hn (AOp.range hx hi ht) (by rintro _ _ ⟨it, e, rfl⟩; injection e with e; subst e; exact hk it) (by rintro _ _ ⟨it, e, _⟩; cases e)
theorem AL.next (i j : Nat) (idx : List Nat) {dd : Nat} {x : Operand} {it b : Nat} {kv : List (AV × AV)} {g : MG} {T : TypeId} {ps : String} {es : Array Edge} (hx : aeval af x = some (.ref it 0)) (hj : ah[j]? = some (.iter it b g.clk (seenOf g idx))) (hi : ah[i]? = some (.map b kv g)) (hidx : ∀ k ∈ idx, k < kv.length) (hn : Nat.blt dd C.n = true)
    (hend : (∀ k, k < kv.length → k ∈ idx) → AL C ds ks ops rest ((dd, .tup [.bool false]) :: af) ah)
    (hk : ∀ k key v, k ∉ idx → kv[k]? = some (key, v) → AL C ds ks ops rest ((dd, .tup [.bool true, key, v]) :: af) (ah.set j (.iter it b g.clk (seenOf g (idx ++ [k]))))) : AL C ds ks ops (⟨some dd, .next x false, T, ps, es, none⟩ :: rest) af ah := by
  refine AL.step rfl hn (AOp.next hx hj hi hidx) ?_ ?_
  · rintro v h (⟨h1, e, rfl⟩ | ⟨k, key, u, h1, h2, e, rfl⟩)
    · injection e with e; subst e; exact hend h1
    · injection e with e; subst e; exact hk k key u h1 h2
  · rintro v h (⟨h1, e, rfl⟩ | ⟨k, key, u, h1, h2, e, rfl⟩) <;> cases e
end
section
variable {C : Cx} {ds : List Deferred} {ks : List K} {ops : Array Oper} {af : AF} {aq ae : AH} {n : Nat} {rem : List Nat} {vs : List AV}
theorem AX.three (i j k : Nat) (hr : readyL ops rem = [i, j, k]) (h : AXS C ds ks ops af aq n rem vs ae i) (h' : AXS C ds ks ops af aq n rem vs ae j) (h'' : AXS C ds ks ops af aq n rem vs ae k) : AX C ds ks ops af aq (n + 1) rem vs ae :=
  AX.next _ hr fun x hx => by
    simp only [List.mem_cons, List.not_mem_nil, or_false] at hx
    rcases hx with rfl | rfl | rfl <;> assumption
theorem AX.four (i j k l : Nat) (hr : readyL ops rem = [i, j, k, l]) (h : AXS C ds ks ops af aq n rem vs ae i) (h' : AXS C ds ks ops af aq n rem vs ae j) (h'' : AXS C ds ks ops af aq n rem vs ae k) (h''' : AXS C ds ks ops af aq n rem vs ae l) : AX C ds ks ops af aq (n + 1) rem vs ae :=
  AX.next _ hr fun x hx => by
    simp only [List.mem_cons, List.not_mem_nil, or_false] at hx
    rcases hx with rfl | rfl | rfl | rfl <;> assumption
end
theorem nodup_bound : ∀ (n : Nat) (l : List Nat), l.Nodup → (∀ k ∈ l, k < n) → l.length ≤ n
  | 0, l, _, h => by
    cases l with
    | nil => simp
    | cons a l => have := h a (by simp); omega
  | n + 1, l, hn, h => by
    have h1 := nodup_bound n (l.erase n) (hn.erase n) (fun k hk => by
      have h2 := h k (List.mem_of_mem_erase hk)
      have : k ≠ n := fun e => by subst e; exact (hn.mem_erase_iff.1 hk).1 rfl
      omega)
    have h2 : l.length ≤ (l.erase n).length + 1 := by
      rw [List.length_erase]; split <;> omega
    omega
theorem nodup_snoc {l : List Nat} {k : Nat} (h : l.Nodup) (hk : k ∉ l) : (l ++ [k]).Nodup := by
  rw [List.nodup_append]
  exact ⟨h, by simp, fun a ha b hb e => by simp at hb; subst hb; subst e; exact hk ha⟩
theorem kvW_get {α : Type} {g : α → AV} {A : List (ByteArray × α)} {k : Nat} {key v : AV} (h : (kvW g A)[k]? = some (key, v)) : ∃ p, A[k]? = some p ∧ key = .str p.1 ∧ v = g p.2 := by
  unfold kvW at h
  rw [List.getElem?_map] at h
  cases hp : A[k]? with
  | none => rw [hp] at h; cases h
  | some p => rw [hp] at h; simp only [Option.map_some, Option.some.injEq, Prod.mk.injEq] at h; exact ⟨p, rfl, h.1.symm, h.2.symm⟩
theorem kvW_length {α : Type} (g : α → AV) (A : List (ByteArray × α)) : (kvW g A).length = A.length := by simp [kvW]
theorem TriD.mono {P : Program} {f : FuncId} {args : List AV} {ah : AH} {u : FrameMode} {Φ Ψ : FrameMode → AH → Prop} (h : TriD P f args ah u Φ) (k : ∀ u' h, Φ u' h → Ψ u' h) : TriD P f args ah u Ψ :=
  ⟨h.call, fun Fr w vs hst hrel => (h.out Fr w vs hst hrel).mono fun e u' w' ⟨h1, ah', h2, h3⟩ => ⟨h1, ah', k _ _ h2, h3⟩⟩
theorem APanF.perm {C : Cx} {ds : List Deferred} {v : AV} {af : AF} {a b : AH} (hp : a.Perm b) (h : APanF C ds v af b) : APanF C ds v af a := .mk fun ac w u g hu =>
  h.out ac w u { g with st := g.st.perm hp, old := fun x o hb hr => g.old x o hb ((reg_perm hp).2 hr), fr := by rw [← Sof_perm hp]; exact g.fr } (by rw [← Sof_perm hp]; exact hu)
def sndN : Nat → Code → Code
  | 0, c => c
  | n + 1, .seq _ c => sndN n c
  | _, c => c
def fst1 : Code → Code
  | .seq a _ => a
  | c => c
def bodyOf (fn : Func) : Code := match fn.body with | some c => c | none => .skip
end Go.SX
namespace Go.SX
open Go.RowKit
set_option linter.unusedVariables false
set_option linter.unusedSimpArgs false
section
variable {P : Program} {af : AF} {ah : AH} {d : Option Tmp} {T : TypeId} {ps : String} {es : Array Edge} {gd : Option (Nat × Bool)}
def nilS : AV := .val (.slice none 0 0)
/-- A call, the arguments told in another way. -/
theorem AOp.callV {f : FuncId} {y : Operand} {caps : List AV} {xs : Array Operand} {tys : Array TypeId} {args : List AV} {Φ : AEnd → AH → Prop} (hy : aeval af y = some (.fn f caps)) (hx : ∀ (S : Rg) (w : World) (a : Act), AFRel S w af a → RelVs S w args (xs.toList.map a.eval))
    (h : Tri P f (args ++ caps) ah Φ) : AOp P ⟨d, .call ⟨.value y, xs, tys⟩, T, ps, es, gd⟩ af ah Φ := .mk fun Fr a w hst hf => by
  obtain ⟨vs, hv, hc⟩ := (aeval_rel hf hy).fn
  have hr := hx _ _ _ hf
  have hrun : (execOp a.eval ⟨d, .call ⟨.value y, xs, tys⟩, T, ps, es, gd⟩).run P w = .ok (.enter f ((xs.toList.map a.eval ++ vs).toArray)) w := by
    simp only [execOp, resolve, hv, Deferred.ofValue, Sem.run_bind, Sem.run_pure, Result.andThen_ok, invoke]
    rw [run_callFunc h.1]
    congr 2
    apply Array.ext'
    simp
  rw [hrun]
  exact h.2 Fr w _ hst (hr.append hc)
theorem AOp.cap_nil {x : Operand} {t : TypeId} (ht : lenTy P t = some false) (hx : aeval af x = some nilS) : AOp P ⟨d, .call ⟨.builtin .cap, #[x], #[t]⟩, T, ps, es, gd⟩ af ah (D (.int .i64 0) ah) :=
  AOp.of_pure fun S a w hfr _ => by
    have hu := (aeval_rel hfr hx).val
    obtain ⟨e, ht⟩ := lenTy_sl ht
    exact ⟨.int .i64 0, by simp [execOp, resolve, invoke, builtin, hu, Builtin.cap_, goInt, run_underlying ht], mk_int⟩
theorem AOp.len_nil {x : Operand} {t : TypeId} (ht : lenTy P t = some false) (hx : aeval af x = some nilS) : AOp P ⟨d, .call ⟨.builtin .len, #[x], #[t]⟩, T, ps, es, gd⟩ af ah (D (.int .i64 0) ah) :=
  AOp.of_pure fun S a w hfr _ => by
    have hu := (aeval_rel hfr hx).val
    obtain ⟨e, ht⟩ := lenTy_sl ht
    exact ⟨.int .i64 0, by simp [execOp, resolve, invoke, builtin, hu, Builtin.len_, Builtin.lenOf, goInt, run_underlying ht], mk_int⟩
theorem AOp.cut_nil {x : Operand} {lo hi : Option Operand} {t sz : Nat} (ht : esize P t = some sz) (hx : aeval af x = some nilS) (el : bndIs af lo 0 0) (eh : bndIs af hi 0 0) : AOp P ⟨d, .slice t x lo hi none, T, ps, es, gd⟩ af ah (D nilS ah) :=
  AOp.of_pure fun S a w hf _ => by
    have hu := (aeval_rel hf hx).val
    unfold esize at ht
    split at ht
    · rename_i e hut
      cases hi' : P.info? e with
      | none => simp [hi'] at ht
      | some i =>
        have hb := run_bounds (P := P) (c := 0) (sl := true) (w := w) hf el eh (Nat.le_refl _) (Nat.le_refl _)
        refine ⟨.slice none 0 0, by simp [execOp, Instr.sliceAt, run_underlying hut, Instr.slice, hu, hb, sizeOf, typeInfo, hi'], ?_⟩
        exact ⟨by simp [nilS, RelC, Value.cells], by simp [nilS, Shape]⟩
    · cases ht
theorem AOp.cut_osl {x : Operand} {hi : Option Operand} {t sz b n c h : Nat} (ht : esize P t = some sz) (hx : aeval af x = some (.osl b n c)) (eh : bndIs af hi n h) (hh : h ≤ c) : AOp P ⟨d, .slice t x none hi none, T, ps, es, gd⟩ af ah (D (.osl b h c) ah) :=
  AOp.of_pure fun S a w hf _ => by
    obtain ⟨hu, hl1, hl2⟩ := (aeval_rel hf hx).osl
    unfold esize at ht
    split at ht
    · rename_i e hut
      cases hi' : P.info? e with
      | none => simp [hi'] at ht
      | some i =>
        have hb := run_bounds (P := P) (w := w) (c := c) (sl := true) hf (bndIs.none (af := af) (n := 0)) eh (Nat.zero_le _) hh
        refine ⟨.slice (some ⟨b, 0, none⟩) h c, ?_, mk_osl hh hl2⟩
        simp only [Option.map_none] at hb
        simp [execOp, Instr.sliceAt, run_underlying hut, Instr.slice, hu, hb, sizeOf, typeInfo, hi', addr_add]
    · cases ht
theorem appRow {t e bytes : Nat} {c : Value} (h : rowTy P t = some (e, c, bytes)) : appTy P t = some (e, 1, bytes) := by
  obtain ⟨hu, i, z, hi, hz, hzc, hs, hb⟩ := rowTy_parts h
  unfold appTy
  rw [hu]
  simp only [hi, hz, hzc, hs, hb]
  rfl
theorem AOp.append_zeros {x y : Operand} {n : Nat} {t t2 e bytes : Nat} {c : Value} {z : AV} (hx : aeval af x = some nilS) (hy : aeval af y = some (.int .i64 n)) (h0 : 0 < n) (ht : rowTy P t = some (e, c, bytes)) (ht2 : (match P.underlying t2 with | some (.int _) => true | _ => false) = true) (hz : z.flat = some [c]) (hb : n * bytes ≤ 16777216) (hn : n ≤ 16777216) :
    AOp P ⟨d, .call ⟨.builtin .append, #[x, y], #[t, t2]⟩, T, ps, es, gd⟩ af ah (fun r h => ∃ b k, n ≤ k ∧ r = .ret (.osl b n k) ∧ h = .row b (List.replicate k z) :: ah) := .mk fun Fr a w hst hf => by
  have e1 := (aeval_rel hf hx).val
  have e2 := (aeval_rel hf hy).int
  obtain ⟨hu, i, zv, hi, hzv, hzc, hs, hbt⟩ := rowTy_parts ht
  obtain ⟨kn, ht2'⟩ : ∃ kn, P.underlying t2 = some (.int kn) := by
    split at ht2
    · exact ⟨_, by assumption⟩
    · cases ht2
  have hold : (Builtin.firstCells i.size 0 (.slice none 0 0)).run P w.drew = .ok ([] : List Value).toArray w.drew := by simp [Builtin.firstCells]
  have hrun := Lib.run_append_grow_zeros w t t2 T e i zv .i64 kn hu ht2' hi hzv none 0 0 [] hold n h0 (by rw [hs]; omega) (by omega) (by simp; omega) (by rw [hbt]; omega) (by rw [Nat.zero_add]; exact growslice_fits (by omega) (by rw [hbt]; omega))
  rw [Nat.zero_add, hzc] at hrun
  generalize hk : grownCap w n 0 e = k at hrun
  have hk1 : n ≤ k := by rw [← hk]; exact grownCap_ge w n 0 e
  have hk2 : k ≤ maxLen := by rw [← hk]; exact grownCap_le_maxLen w n 0 e (by unfold maxLen; omega)
  have hcs : ([] : List Value).toArray ++ Builtin.zeroCells #[c] n ++ Builtin.zeroCells #[c] (k - n) = Array.replicate k c := by
    apply Array.ext'
    simp only [Array.toList_append, zeroCells_one, List.nil_append, List.replicate_append_replicate, Array.toList_replicate]
    congr 1
    omega
  rw [hcs] at hrun
  have hrun' : (execOp a.eval ⟨d, .call ⟨.builtin .append, #[x, y], #[t, t2]⟩, T, ps, es, gd⟩).run P w = .ok (.value (.slice (some ⟨w.heap.size, 0, none⟩) n k)) (w.drew.alloc (.cells (Array.replicate k c) e)) := by
    simp only [execOp, resolve, invoke, builtin, Sem.run_bind, Sem.run_pure, Result.andThen_ok, List.map_toArray, List.map_cons, List.map_nil, e1, e2, hrun]
  rw [hrun']
  have hext0 : Ext (fun _ _ => False) w (w.drew.alloc (.cells (Array.replicate k c) e)) :=
    ⟨rfl, rfl, rfl, by simp, fun k hk _ => Below.heap_alloc w.drew _ k hk, fun ad v hc _ => (World.cell?_alloc_lt w.drew _ ad (cell_lt hc)).trans hc⟩
  obtain ⟨h1, h2, h3⟩ := hst.cons (x := .row w.heap.size (List.replicate k z)) (b := w.heap.size) rfl (Nat.le_refl _) (by simp) hext0 (fun m => ⟨_, e, heap_alloc_new w.drew _, fun j v hj => by
    obtain ⟨hk1, rfl⟩ : j < k ∧ z = v := by
      rw [List.getElem?_replicate] at hj
      split at hj
      · exact ⟨‹_›, Option.some.inj hj⟩
      · cases hj
    exact ⟨c, by simp [hk1], RelC.flat z _ hz⟩⟩)
  exact ⟨_, _, ⟨_, _, hk1, rfl, rfl⟩, ⟨_, rfl, mk_osl hk1 hk2⟩, h1, h2, h3⟩
/-- append in the room of a row of the call's own. -/
theorem AOp.append_osl {x y : Operand} {b n c i : Nat} {xs ys : List AV} {v : AV} {t t2 e bytes : Nat} {c0 : Value} (hx : aeval af x = some (.osl b n c)) (hi : ah[i]? = some (.row b xs)) (hc : c ≤ xs.length) (hy : aeval af y = some v) (hs : srcOf v = some ys)
    (ht : rowTy P t = some (e, c0, bytes)) (ht2 : isSlTy P t2 = true) (hys : ∀ y ∈ ys, y.size = 1) (hok : AV.cellsOK ys = true) (hroom : n + ys.length ≤ c) :
    AOp P ⟨d, .call ⟨.builtin .append, #[x, y], #[t, t2]⟩, T, ps, es, gd⟩ af ah (D (.osl b (n + ys.length) c) (ah.set i (.row b (xs.take n ++ ys ++ xs.drop (n + ys.length))))) := .mk fun Fr a w hst hf => by
  obtain ⟨hu, hl1, hl2⟩ := (aeval_rel hf hx).osl
  obtain ⟨A2, c2, hu2, hl2', hm2, hrow2⟩ := srcOf_rel (aeval_rel hf hy) hs
  obtain ⟨ds, d1, d2, d3⟩ := run_first (P := P) (w' := w) (c := c2) hrow2 hys rfl
  rw [Nat.mul_one] at d3
  obtain ⟨w', r1, k1, k2, k3⟩ := hst.laid (P := P) (ys := ys) (ds := ds) (o := n) hi (by omega) d3 (RelCs.cellOK _ ds d2 hok) (fun j y hj => RelCs.get1 d2 hys j y hj)
  have hrun := run_append_room (ty := T) (base := some ⟨b, 0, none⟩) (n := n) (cap := c) (appRow ht) ht2 d1 hroom
  simp only [Nat.mul_one, addr_add, Nat.zero_add, r1, Result.andThen_ok] at hrun
  have hrun' : (execOp a.eval ⟨d, .call ⟨.builtin .append, #[x, y], #[t, t2]⟩, T, ps, es, gd⟩).run P w = .ok (.value (.slice (some ⟨b, 0, none⟩) (n + ys.length) c)) w' := by
    simp only [execOp, resolve, invoke, builtin, Sem.run_bind, Sem.run_pure, Result.andThen_ok, List.map_toArray, List.map_cons, List.map_nil, hu, hu2, hrun]
  rw [hrun']
  exact ⟨_, _, ⟨rfl, rfl⟩, ⟨_, rfl, mk_osl hroom hl2⟩, k1, k2, k3⟩
end
section
variable {C : Cx} {ds : List Deferred} {ks : List K} {af : AF} {ah : AH} {ops : Array Oper} {rest : List Oper}
theorem Good.freeze_pre {a : Act} {w : World} (g : Good C ds af ah a w) {i d b n c : Nat} {xs : List AV} (hi : ah[i]? = some (.row b xs)) (hd : get af d = some (.osl b n c)) (hn : n ≤ xs.length) (hs : ∀ x ∈ xs, x.size = 1) : Good C ds ((d, .sl (xs.take n)) :: af) (ah.eraseIdx i) a w := by
  have g' := g.sub (List.eraseIdx_sublist ah i)
  obtain ⟨cs, t, hh, hr⟩ := g.st.rel _ (List.mem_of_getElem? hi)
  have hbm := List.mem_of_getElem? hi
  have hsof : ∀ b o, Sof C.Fr (ah.eraseIdx i) b o → Sof C.Fr ah b o := fun b o hs => hs.elim .inl fun hr => .inr (reg_sub (List.eraseIdx_sublist ah i) hr)
  refine { g' with fr := fun j v hj => ?_ }
  rw [get_cons] at hj
  by_cases e : d = j
  · subst e
    rw [if_pos rfl] at hj
    obtain rfl := Option.some.inj hj
    obtain ⟨hu, hl1, hl2⟩ := (g.fr d _ hd).osl
    rw [hu]
    refine ⟨?_, by simp [Shape]⟩
    show RelC _ _ (.sl (xs.take n)) [_]
    simp only [RelC]
    have hln : (xs.take n).length = n := by simp; omega
    refine ⟨_, c, by rw [hln], by rw [hln]; exact hl1, hl2, fun _ => ⟨b, 0, 1, rfl, ?_⟩⟩
    have hno : ∀ o, ¬ Sof C.Fr (ah.eraseIdx i) b o := by
      rintro o (hF | ⟨y, hy, hy'⟩)
      · exact g.st.fr _ hbm b rfl _ hF
      · have hyb := reg_blk hy'
        obtain ⟨e1, _⟩ := mem_split hi
        have hn := g.st.nodup
        rw [e1, List.filterMap_append, List.nodup_append, List.filterMap_cons] at hn
        simp only [Own.blk] at hn
        rw [List.eraseIdx_eq_take_drop_succ] at hy
        rcases List.mem_append.1 hy with hy | hy
        · exact hn.2.2 b (List.mem_filterMap.2 ⟨y, hy, hyb⟩) b (by simp) rfl
        · exact (List.nodup_cons.1 hn.2.1).1 (List.mem_filterMap.2 ⟨y, hy, hyb⟩)
    have key : ∀ (l : List AV) (o : Nat), (∀ (k : Nat) x, l[k]? = some x → ∃ v, cs[o + k]? = some v ∧ RelC (Sof C.Fr ah) w x [v]) → RelRow (Sof C.Fr (ah.eraseIdx i)) w l 1 b o := by
      intro l
      induction l with
      | nil => intro o _; simp [RelRow]
      | cons x l ih =>
        intro o h
        simp only [RelRow]
        obtain ⟨v, hv, hrv⟩ := h 0 x rfl
        refine ⟨⟨[v], rfl, RelC.mv (Mv.same w hsof) _ _ hrv, fun j u hj => ⟨hno _, ?_⟩⟩, ih (o + 1) fun k y hk => ?_⟩
        · cases j with
          | zero => simp only [List.getElem?_cons_zero, Option.some.injEq] at hj; subst hj; rw [cell_of_row w b _ cs t (0, 0) hh]; exact hv
          | succ j => simp at hj
        · obtain ⟨v, hv, hrv⟩ := h (k + 1) y (by simpa using hk)
          exact ⟨v, by rw [show o + 1 + k = o + (k + 1) by omega]; exact hv, hrv⟩
    refine key (xs.take n) 0 fun k x hk => ?_
    rw [Nat.zero_add]
    refine hr k x ?_
    have hlt := (List.getElem?_eq_some_iff.1 hk).1
    rw [List.getElem?_take, if_pos (by simp at hlt; omega)] at hk
    exact hk
  · rw [if_neg e] at hj
    exact g'.fr j v hj
theorem AW.freeze_pre (i d : Nat) {b n c : Nat} {xs : List AV} (hi : ah[i]? = some (.row b xs)) (hd : get af d = some (.osl b n c)) (hn : n ≤ xs.length) (hs : ∀ x ∈ xs, x.size = 1) (k : AW C ds ks ((d, .sl (xs.take n)) :: af) (ah.eraseIdx i)) : AW C ds ks af ah := .mk fun a w g => k.out a w (g.freeze_pre hi hd hn hs)
theorem AL.append_zeros {dd : Nat} {x y : Operand} {n : Nat} {t t2 e bytes : Nat} {c : Value} {z : AV} {T : TypeId} {ps : String} {es : Array Edge} (hx : aeval af x = some nilS) (hy : aeval af y = some (.int .i64 n)) (h0 : 0 < n) (ht : rowTy C.P t = some (e, c, bytes)) (ht2 : (match C.P.underlying t2 with | some (.int _) => true | _ => false) = true) (hz : z.flat = some [c]) (hb : n * bytes ≤ 16777216) (hn : n ≤ 16777216) (hd : Nat.blt dd C.n = true)
    (hk : ∀ b k, n ≤ k → AL C ds ks ops rest ((dd, .osl b n k) :: af) (.row b (List.replicate k z) :: ah)) : AL C ds ks ops (⟨some dd, .call ⟨.builtin .append, #[x, y], #[t, t2]⟩, T, ps, es, none⟩ :: rest) af ah :=
  AL.step rfl hd (AOp.append_zeros hx hy h0 ht ht2 hz hb hn) (by rintro _ _ ⟨b, k, h, e, rfl⟩; injection e with e; subst e; exact hk b k h) (by rintro _ _ ⟨b, k, h, e, _⟩; cases e)
end
end Go.SX
namespace Go.SX
open Go.RowKit
set_option linter.unusedVariables false
set_option linter.unusedSimpArgs false

def Agree : Nat → List Nat → List AV → List AV → Prop
  | k, rem, v :: vs, u :: us => (memN k rem = true ∨ v = u) ∧ Agree (k + 1) rem vs us
  | _, _, [], [] => True
  | _, _, _, _ => False
theorem Agree.spec : ∀ {vs us : List AV} {k : Nat} {rem : List Nat}, Agree k rem vs us → vs.length = us.length ∧ ∀ y, (k + y) ∉ rem → vs.getD y .any = us.getD y .any
  | [], [], k, rem, _ => ⟨rfl, fun _ _ => rfl⟩
  | v :: vs, u :: us, k, rem, h => by
    obtain ⟨h1, h2⟩ := h
    obtain ⟨g1, g2⟩ := Agree.spec h2
    refine ⟨by simp [g1], fun y hy => ?_⟩
    cases y with
    | zero =>
      rcases h1 with h1 | h1
      · exact absurd (memN_iff.1 h1) (by simpa using hy)
      · simp [h1]
    | succ y => simpa using g2 y (by rw [show k + 1 + y = k + (y + 1) by omega]; exact hy)
  | [], u :: us, _, _, h => h.elim
  | v :: vs, [], _, _, h => h.elim
def RestOK (P : Program) (ops : Array Oper) (af : AF) (ae : AH) (us : List AV) : List Nat → Prop
  | [] => True
  | i :: l => (∃ o, ops[i]? = some o ∧ o.guard = none ∧ AOp P o (keep (oslots ops o) (frameOf ops us af (down i))) ae (D (us.getD i .any) ae)) ∧ RestOK P ops af ae us l
theorem RestOK.mem {P : Program} {ops : Array Oper} {af : AF} {ae : AH} {us : List AV} : ∀ {l : List Nat}, RestOK P ops af ae us l → ∀ i ∈ l, ∃ o, ops[i]? = some o ∧ o.guard = none ∧ AOp P o (keep (oslots ops o) (frameOf ops us af (down i))) ae (D (us.getD i .any) ae)
  | [], _, i, h => by cases h
  | j :: l, h, i, hi => by
    rcases List.mem_cons.1 hi with rfl | hi
    · exact h.1
    · exact RestOK.mem h.2 i hi
section
variable {C : Cx} {ds : List Deferred} {ks : List K} {ops : Array Oper} {af : AF} {aq : AH}
theorem AX.rest_core {ae : AH} {us : List AV} (hd : drawOK ops = true) (hk : AW C ds ks (frameOf ops us af (down ops.size)) (ae ++ aq)) : ∀ (n : Nat) (rem : List Nat) (vs : List AV), rem.length = n → rem.Nodup → (∀ i ∈ rem, i < ops.size ∧ i < vs.length) →
    (∀ y, y ∉ rem → vs.getD y .any = us.getD y .any) → (∀ i ∈ rem, ∃ o, ops[i]? = some o ∧ o.guard = none ∧ AOp C.P o (keep (oslots ops o) (frameOf ops us af (down i))) ae (D (us.getD i .any) ae)) → AX C ds ks ops af aq n rem vs ae := by
  intro n
  induction n with
  | zero =>
    intro rem vs hl hn hlt hag hq
    obtain rfl := List.length_eq_zero_iff.1 hl
    refine AW.weaken hk fun s v hs => ?_
    rw [get_frameOf] at hs ⊢
    cases hw : wr ops s (down ops.size) with
    | none => rw [hw] at hs; exact hs
    | some x => rw [hw] at hs; simp only at hs ⊢; rw [hag x (by simp)]; exact hs
  | succ n ih =>
    intro rem vs hl hn hlt hag hq i hi hready
    obtain ⟨o, ho, hg, hop⟩ := hq i hi
    have hkeep : keep (oslots ops o) (frameOf ops vs af (down i)) = keep (oslots ops o) (frameOf ops us af (down i)) := by
      refine keep_congr fun s hs => ?_
      rw [get_frameOf, get_frameOf]
      cases hw : wr ops s (down i) with
      | none => rfl
      | some y =>
        simp only
        obtain ⟨l1, l2, e, hy, _⟩ := wr_some hw
        have hyi : y < i := mem_down.1 (by rw [e]; simp)
        have hcl := drawOK_clash hd hyi (hlt i hi).1 (clash_comm (clash_slot ho hs hy))
        have hyr : y ∉ rem := fun hm => by rw [hready y hm] at hcl; cases hcl
        rw [hag y hyr]
    refine ⟨o, ho, .inr ⟨by simp [gdo, hg], D (us.getD i .any) ae, hkeep ▸ hop, ?_, ?_⟩⟩
    · rintro v h ⟨e, rfl⟩
      injection e with e
      subst e
      refine ih (rem.erase i) _ (by rw [List.length_erase_of_mem hi, hl]; rfl) (hn.erase i) (fun j hj => ?_) (fun y hy => ?_) (fun j hj => hq j (List.mem_of_mem_erase hj))
      · have := hlt j (List.mem_of_mem_erase hj); simpa using this
      · by_cases e : i = y
        · subst e
          rw [List.getD_eq_getElem?_getD, List.getElem?_set_self (hlt i hi).2]; rfl
        · rw [getD_set_ne e]
          exact hag y fun hm => hy ((hn.mem_erase_iff).2 ⟨fun h => e h.symm, hm⟩)
    · rintro v h ⟨e, _⟩; cases e
/-- What is left touches nothing: its values us, told in the text's order. -/
theorem AX.rest {ae : AH} {n : Nat} {rem : List Nat} {vs : List AV} (us : List AV) (af' : AF) (hd : drawOK ops = true) (hr : okE rem ops.size = true) (hn : Nat.beq rem.length n = true) (hvl : Nat.beq us.length ops.size = true) (hag : Agree 0 rem vs us) (hq : RestOK C.P ops af ae us rem)
    (he : keep (af'.map (·.1)) (frameOf ops us af (down ops.size)) = af') (k : AW C ds ks af' (ae ++ aq)) : AX C ds ks ops af aq n rem vs ae := by
  obtain ⟨g1, g2⟩ := hag.spec
  obtain ⟨h1, h2⟩ := okE_iff hr
  refine AX.rest_core hd (AW.weaken k fun i v hi => get_keep (he ▸ hi)) n rem vs (by simpa using hn) h1 (fun i hi => ⟨h2 i hi, ?_⟩) (fun y hy => g2 y (by simpa using hy)) hq.mem
  have := h2 i hi
  have hv : us.length = ops.size := by simpa using hvl
  omega
end
end Go.SX
