/- Contracts of the functions, part 4. -/
import Derived.Test.YtlpndgodkkndnaaDoorA3
import Derived.Test.YtlpndgodkkndnaaDoorA3
import Derived.Test.YtlpndgodkkndnaaDoorS2
import Derived.Test.YtlpndgodkkndnaaDoorProg
import Derived.Lib.LaidTab
namespace Go.Proofs.YtlpndgodkkndnaaDoor
open Go.RowKit Go.SX
set_option maxRecDepth 100000
set_option maxHeartbeats 4000000
set_option linter.unusedVariables false
set_option linter.unusedSimpArgs false
theorem lookA_none {α : Type} {A : List (ByteArray × α)} {k : ByteArray} : lookA A k = none ↔ k ∉ A.map (·.1) := by
  induction A with
  | nil => simp [lookA]
  | cons p A ih =>
    obtain ⟨k', v⟩ := p
    rw [lookA, List.map_cons, List.mem_cons, not_or]
    by_cases e : k = k'
    · subst e; simp
    · rw [if_neg e, ih]; exact ⟨fun h => ⟨e, h⟩, fun h => h.2⟩
theorem lookA_some {α : Type} {A : List (ByteArray × α)} {k : ByteArray} {v : α} (hn : (A.map (·.1)).Nodup) : lookA A k = some v ↔ (k, v) ∈ A := by
  induction A with
  | nil => simp [lookA]
  | cons p A ih =>
    obtain ⟨k', w⟩ := p
    rw [List.map_cons, List.nodup_cons] at hn
    rw [lookA, List.mem_cons]
    by_cases e : k = k'
    · subst e
      rw [if_pos rfl]
      constructor
      · intro h; rw [Option.some.inj h]; exact .inl rfl
      · rintro (h | h)
        · rw [(Prod.mk.inj h).2]
        · exact (hn.1 (List.mem_map.2 ⟨_, h, rfl⟩)).elim
    · rw [if_neg e, ih hn.2]
      exact ⟨.inr, fun h => h.elim (fun h => (e (Prod.mk.inj h).1).elim) id⟩
theorem nodup_injA {α : Type} {l : List α} (h : l.Nodup) (i j : Nat) (hi : i < l.length) (hj : j < l.length) (e : l[i] = l[j]) : i = j := by
  rcases Nat.lt_trichotomy i j with h1 | h1 | h1
  · exact absurd e (List.pairwise_iff_getElem.1 h i j hi hj h1)
  · exact h1
  · exact absurd e.symm (List.pairwise_iff_getElem.1 h j i hj hi h1)
def CopyOf {α : Type} (M A : List (ByteArray × α)) (idx : List Nat) : Prop := (A.map (·.1)).Nodup ∧ ∀ k v, (k, v) ∈ A ↔ ∃ j ∈ idx, M[j]? = some (k, v)
theorem CopyOf.step {α : Type} {M A : List (ByteArray × α)} {idx : List Nat} (hM : (M.map (·.1)).Nodup) (h : CopyOf M A idx) {j : Nat} {k : ByteArray} {v : α} (hj : j ∉ idx) (hk : M[j]? = some (k, v)) : CopyOf M (setA A k v) (idx ++ [j]) := by
  have hno : k ∉ A.map (·.1) := by
    intro hm
    obtain ⟨⟨k', v'⟩, hp, rfl⟩ := List.mem_map.1 hm
    obtain ⟨j', hj', hk'⟩ := (h.2 _ _).1 hp
    have h1 := (List.getElem?_eq_some_iff.1 hk).1
    have h2 := (List.getElem?_eq_some_iff.1 hk').1
    have : j = j' := nodup_injA hM j j' (by simpa using h1) (by simpa using h2) (by
      have e1 : (M.map (·.1))[j]? = some k' := by rw [List.getElem?_map, hk]; rfl
      have e2 : (M.map (·.1))[j']? = some k' := by rw [List.getElem?_map, hk']; rfl
      rw [List.getElem?_eq_getElem (by simpa using h1)] at e1
      rw [List.getElem?_eq_getElem (by simpa using h2)] at e2
      exact (Option.some.inj e1).trans (Option.some.inj e2).symm)
    exact hj (this ▸ hj')
  rw [setA_miss (lookA_none.2 hno)]
  refine ⟨?_, fun k' v' => ?_⟩
  · rw [List.map_append, List.nodup_append]
    refine ⟨h.1, by simp, ?_⟩
    rintro a ha b hb rfl
    simp only [List.map_cons, List.map_nil, List.mem_singleton] at hb
    subst hb; exact hno ha
  · rw [List.mem_append, h.2, List.mem_singleton]
    constructor
    · rintro (⟨j', hj', e⟩ | e)
      · exact ⟨j', List.mem_append_left _ hj', e⟩
      · exact ⟨j, by simp, by rw [hk, e]⟩
    · rintro ⟨j', hj', e⟩
      rcases List.mem_append.1 hj' with hj' | hj'
      · exact .inl ⟨j', hj', e⟩
      · rw [List.mem_singleton.1 hj', hk] at e
        exact .inr (Option.some.inj e).symm
theorem CopyOf.all {α : Type} {M A : List (ByteArray × α)} {idx : List Nat} (hM : (M.map (·.1)).Nodup) (h : CopyOf M A idx) (ha : ∀ j, j < M.length → j ∈ idx) (v : ByteArray) : lookA A v = lookA M v := by
  have key : ∀ w, lookA A v = some w ↔ lookA M v = some w := fun w => by
    rw [lookA_some h.1, lookA_some hM, h.2]
    constructor
    · rintro ⟨j, _, e⟩; exact List.mem_of_getElem? e
    · intro hm
      obtain ⟨j, hj⟩ := List.getElem?_of_mem hm
      exact ⟨j, ha j (List.getElem?_eq_some_iff.1 hj).1, hj⟩
  cases h1 : lookA A v with
  | none =>
    cases h2 : lookA M v with
    | none => rfl
    | some w => rw [(key w).2 h2] at h1; cases h1
  | some w => rw [(key w).1 h1]
theorem setA_nodup {α : Type} {A : List (ByteArray × α)} {k : ByteArray} {v : α} (h : (A.map (·.1)).Nodup) : ((setA A k v).map (·.1)).Nodup := by
  cases hL : lookA A k with
  | none =>
    rw [setA_miss hL, List.map_append, List.nodup_append]
    refine ⟨h, by simp, ?_⟩
    rintro a ha b hb rfl
    simp only [List.map_cons, List.map_nil, List.mem_singleton] at hb
    subst hb; exact lookA_none.1 hL ha
  | some u =>
    obtain ⟨j, hj, hs⟩ := setA_hit hL
    have e : (A.set j (k, v)).map (·.1) = A.map (·.1) := by
      rw [List.map_set]
      apply List.ext_getElem?
      intro q
      rw [List.getElem?_set]
      split
      · subst_vars
        split
        · rw [List.getElem?_map, hj]; rfl
        · rw [List.getElem?_eq_none (by omega)]
      · rfl
    rw [hs, e]; exact h
theorem upV_snoc (x w : ByteArray) : ∀ (l r : List ByteArray) (σ : Sb), l.length = r.length → upV (l ++ [x]) (r ++ [w]) σ = up1 (upV l r σ) x w
  | [], [], σ, _ => rfl
  | v :: l, u :: r, σ, h => by rw [List.cons_append, List.cons_append, upV, upV_snoc x w l r _ (by simpa using h), upV]
  | [], u :: r, σ, h => by simp at h
  | v :: l, [], σ, h => by simp at h
theorem permAp {α : Type} (m r7 r6 a b c : α) (X : List α) : (m :: r7 :: r6 :: a :: b :: c :: X).Perm (r7 :: a :: b :: c :: m :: r6 :: X) := by
  refine (List.Perm.swap r7 m _).trans (.cons _ ?_)
  exact (List.perm_append_comm (l₁ := [m, r6]) (l₂ := [a, b, c])).append_right X
theorem tailD {P : Program} {f : FuncId} {args : List AV} {b b' : AH} {v : AV} (h : Tri P f args b (D v b')) (a : AH) : Tri P f args (a ++ b) (D v (a ++ b')) := by
  have := h.aroundD a []
  simpa using this
abbrev coreH (t : TypeId) (rn mt n : Nat) (tk : List ByteArray) (g : MG) : AH := [TB t, .box rn (nmAV mt n), .map mt (kvW bav (bmap tk)) g]
def ApM (mv : AV) (X : AH) (σ : Sb) : Prop := (mv = nilM ∧ X = [] ∧ σ = fun _ => none) ∨ ∃ mb M1 gm, mv = .map mb ∧ X = [.map mb (kvW AV.str M1) gm] ∧ (M1.map (·.1)).Nodup ∧ ∀ v, lookA M1 v = σ v
theorem renamed_any {mv : AV} {X : AH} {σ : Sb} (h : ApM mv X σ) (l : List ByteArray) (hl : l.length ≤ 8796093021952) : Tri Tryd.prog 71 [strs l, mv] X (D (strs (l.map (rnS σ))) X) := by
  rcases h with ⟨rfl, rfl, rfl⟩ | ⟨mb, M1, gm, rfl, rfl, _, h⟩
  · have e : l.map (rnS fun _ => none) = l := (List.map_congr_left (f := rnS fun _ => none) (g := id) fun x _ => rfl).trans (List.map_id _)
    rw [e]
    exact n_renamed_nil l hl
  · have e : l.map (rnS σ) = l.map (rnV M1) := List.map_congr_left fun x _ => by rw [rnS, rnV, h]
    rw [e]
    exact n_renamed M1 mb gm l hl
theorem n_apart (t : TypeId) (rn mt T : Nat) : ∀ (N : Nat) (f : GFml) (mv : AV) (X : AH) (σ : Sb) (tk : List ByteArray) (n : Nat) (g0 : MG), ndF f ≤ N → f.Ok → ApM mv X σ → tk.length + (bdF f).length ≤ T → n + (bdF f).length * (T + 1) ≤ 9000000000 →
    Tri Tryd.prog 49 [.ref rn 0, f.st, mv] (coreH t rn mt n tk g0 ++ X) (fun r h => r = .ret (apF f σ tk n).1.st ∧ ∃ g', h = coreH t rn mt (apF f σ tk n).2.2 (apF f σ tk n).2.1 g' ++ X) := by
  intro N
  induction N using Nat.strongRecOn with
  | _ N ih =>
    intro f mv X σ tk n g0 hN ho hM hT1 hT2
    have hnd := ndF_eq f
    have hW0 := n_with0 f ho
    have hW1 := fun h => n_with_own f h ho
    have ho2 := ho
    obtain ⟨⟨_, _, _, q4, q5⟩, q6, q7⟩ := ho
    have l4 := q4.1
    have l5 := q5.1
    have hR := renamed_any hM f.Args (by omega)
    obtain ⟨k, ar, nm, vars, args, kids⟩ := f
    rw [apF]
    rw [bdF, List.length_append] at hT1 hT2
    rw [Nat.add_mul] at hT2
    simp only at *
    by_cases hv : vars = []
    · subst hv
      have e0 : frL ([] : List ByteArray).length tk n = ([], n) := rfl
      have e1 : upV [] ([] : List ByteArray) σ = σ := rfl
      rw [e0]
      simp only [e1, List.append_nil]
      simp only [List.length_nil, Nat.zero_add, Nat.zero_mul] at hT1 hT2
      rw [Nat.add_zero] at hT2
      generalize hargs2 : args.map (rnS σ) = args2 at *
      have hM2 := hM
      rcases hM with ⟨rfl, rfl, rfl⟩ | ⟨mb, M1, gm, rfl, rfl, hM3, hM4⟩
      · have hR' := Tri.pure hR
        refine Tri.enter 76 Tryd.func49 rfl rfl rfl rfl fun Fr w0 => ?_
        repeat' (first | (refine AW.r 0 ?_ <;> (first | refine AL.d (AOp.box_ro (v := .st [.int .i64 k, .int .i64 ar, .str nm, strs [], strs args, .sl (kids.map GFml.av)]) rfl rfl) ?_ | refine AL.d (AOp.box_ro rfl rfl) ?_) <;> refine AL.alloc_z (t := 25) zF (by kernel_rfl) rfl rfl fun r6 => ?_ <;> refine AL.nil ?_) | refine AW.jt ?_ | refine AW.jf ?_ | refine AW.jj (fun hb => ?_) (fun hb => ?_) | refine AW.go ?_ | fail)
        repeat' (first | (refine AW.r 1 ?_ <;> (first | refine AL.d AOp.la ?_ | refine AL.d (AOp.lw 0) ?_) <;> refine AL.d (AOp.call_nil2 rfl rfl (hW0.pure _)) ?_ <;> refine AL.alloc_z (t := 25) zF (by kernel_rfl) rfl rfl fun r7 => ?_ <;> refine AL.sl 0 ?_ <;> refine AL.nil ?_) | refine AW.jt ?_ | refine AW.jf ?_ | refine AW.jj (fun hb => ?_) (fun hb => ?_) | refine AW.go ?_ | fail)
        repeat' (first | (refine AW.r 2 ?_ <;> (first | refine AL.d AOp.fa ?_ | refine AL.d (AOp.fr 4) ?_) <;> (first | refine AL.d AOp.la ?_ | refine AL.d (AOp.ll 0) ?_) <;> refine AL.es 1 ?_ <;> refine AL.d (AOp.call rfl rfl (hR' _)) ?_ <;> (first | refine AL.d AOp.fa ?_ | refine AL.d (AOp.fr 4) ?_) <;> refine AL.sl 0 ?_ <;> refine AL.nil ?_) | (refine AW.r 3 ?_ <;> (first | refine AL.d AOp.fa ?_ | refine AL.d (AOp.fr 3) ?_) <;> (first | refine AL.d AOp.la ?_ | refine AL.d (AOp.ll 0) ?_) <;> refine AL.es 2 ?_ <;> refine AL.nil ?_) | refine AW.jt ?_ | refine AW.jf ?_ | refine AW.jj (fun hb => ?_) (fun hb => ?_) | refine AW.go ?_ | fail)
        refine AW.weak_box 0 (.st [.int .i64 k, .int .i64 ar, .str nm, strs [], strs args2, .slt [] none 0]) rfl (.st (.cons (.refl _) (.cons (.refl _) (.cons (.refl _) (.cons (.refl _) (.cons (.refl _) (.cons wk_nil .nil))))))) ?_
        refine AW.own_nil 6 ?_
        refine AW.perm (b := [.tail none 0 0 6, .box r7 (.st [.int .i64 k, .int .i64 ar, .str nm, strs [], strs args2, .slt [] none 0]), TB t, .box rn (nmAV mt n), .map mt (kvW bav (bmap tk)) g0, .box r6 zF]) ((List.perm_append_comm (l₁ := [_]) (l₂ := [_, _, _])).cons _ |>.cons _) ?_
        repeat' (first | refine AW.re 16 4 ?_ | refine AW.jt ?_ | refine AW.jf ?_ | refine AW.jj (fun hb => ?_) (fun hb => ?_) | refine AW.go ?_ | fail)
        refine AW.prune [0, 2, 4, 6, 7, 59, 60, 61] (AW.loop (fun mz af h => ∃ (i : Nat) (o : List GFml) (tt : Option Nat) (cc : Nat) (tkk : List ByteArray) (nn : Nat) (gg : MG), i ≤ kids.length ∧ mz = kids.length - i ∧ af = [(0, .ref rn 0), (2, nilM), (4, .at (.st [.int .i64 k, .int .i64 ar, .str nm, strs [], strs args, .sl (kids.map GFml.av)])), (6, .ref r6 0), (7, .ref r7 0), (59, .sl (kids.map GFml.av)), (60, .int .i64 (kids.map GFml.av).length), (61, .int .i64 i)] ∧ h = [.tail tt (o.map GFml.av).length cc 6, .box r7 (.st [.int .i64 k, .int .i64 ar, .str nm, strs [], strs args2, .slt (o.map GFml.av) tt cc]), TB t, .box rn (nmAV mt nn), .map mt (kvW bav (bmap tkk)) gg, .box r6 zF] ∧ (apL kids (fun _ => none) tk n = (o ++ (apL (kids.drop i) (fun _ => none) tkk nn).1, (apL (kids.drop i) (fun _ => none) tkk nn).2) ∧ o.length = i ∧ tkk.length + (bdL (kids.drop i)).length ≤ T ∧ nn + (bdL (kids.drop i)).length * (T + 1) ≤ 9000000000)) kids.length ⟨0, [], none, 0, tk, n, g0, Nat.zero_le _, rfl, rfl, rfl, ⟨rfl, rfl, hT1, hT2⟩⟩ ?_)
        rintro mz af h ⟨i, o, tt, cc, tkk, nn, gg, hi, rfl, rfl, rfl, he⟩
        refine AW.seq ?_
        by_cases hlt : i < kids.length
        · obtain ⟨he, hol, hb1, hb2⟩ := he
          obtain ⟨x, hx⟩ := get_lt hlt
          have hx' : (kids.map GFml.av)[((i : Nat) : Int).toNat]? = some (x.st) := GFml.get hx
          have hxm := List.mem_of_getElem? hx
          have hnx := ndFs_mem hxm
          rw [drop_cons hx, bdL, List.length_append] at hb1 hb2
          rw [Nat.add_mul] at hb2
          rw [drop_cons hx, apL] at he
          have hbd := ap_bd T x (fun _ => none) tkk nn (by omega)
          have htk := ap_tk x (fun _ => none) tkk nn
          have hc := Tri.around (ih (ndF x) (by omega) x (nilM) [] (fun _ => none) tkk nn gg (Nat.le_refl _) (q7 x hxm) hM2 (by omega) (by omega)) [.tail tt (o.map GFml.av).length cc 6, .box r7 (.st [.int .i64 k, .int .i64 ar, .str nm, strs [], strs args2, .slt (o.map GFml.av) tt cc])] []
          generalize hap : apF x (fun _ => none) tkk nn = R at *
          obtain ⟨y, tk2, n2⟩ := R
          simp only at htk hbd he hc
          have htl : tk2.length = tkk.length + (bdF x).length := by rw [htk, List.length_append, hbd.2.2]
          have hol2 : o.length ≤ 1353245080300 := by omega
          have hm : (o ++ [y]).map GFml.av = o.map GFml.av ++ [y.st] := by simp [GFml.av_eq]
          repeat' (first | refine AW.re 17 1 ?_ | refine AW.jt ?_ | refine AW.jf ?_ | refine AW.jj (fun hb => ?_) (fun hb => ?_) | refine AW.go ?_ | fail)
          all_goals try (exfalso; simp only [decide_eq_true_eq, decide_eq_false_iff_not, List.length_map] at *; omega)
          repeat' (first | (refine AW.r 18 ?_ <;> refine AL.d (AOp.index_sl rfl rfl (by omega) hx' (by kernel_rfl) rfl) ?_ <;> (first | refine AL.d AOp.la ?_ | refine AL.d (AOp.lw 0) ?_ | refine AL.d (AOp.lw 1) ?_ | refine AL.d (AOp.lw 2) ?_) <;> refine AL.alloc_z (t := 25) zF (by kernel_rfl) rfl rfl fun r14 => ?_ <;> (first | refine AL.sl 0 ?_ | refine AL.sl 1 ?_ | refine AL.sl 2 ?_) <;> refine AL.nil ?_) | refine AW.jt ?_ | refine AW.jf ?_ | refine AW.jj (fun hb => ?_) (fun hb => ?_) | refine AW.go ?_ | fail)
          repeat' (first | refine AW.jt ?_ | refine AW.jf ?_ | refine AW.jj (fun hb => ?_) (fun hb => ?_) | refine AW.go ?_ | fail)
          refine AW.explore [false, true, true, true, true, true] [1, 5, 6, 7, 9] rfl (by kernel_rfl) (by kernel_rfl) (by kernel_rfl) (by kernel_rfl) ?_
          refine AQE.op rfl (AOp.fr 5) rfl rfl ?_
          refine AQE.hole rfl rfl ?_
          refine AQE.ev rfl rfl rfl rfl ?_
          refine AQE.op rfl (AOp.lw 0) rfl rfl ?_
          refine AQE.ev rfl rfl rfl rfl ?_
          refine AQE.hole rfl rfl ?_
          refine AQE.hole rfl rfl ?_
          refine AQE.hole rfl rfl ?_
          refine AQE.op rfl (AOp.fr 5) rfl rfl ?_
          refine AQE.hole rfl rfl ?_
          refine AQE.nil ?_
          repeat' (first
            | refine AX.two (n := 4) 1 5 rfl ?_ ?_
            | refine AX.two (n := 3) 1 6 rfl ?_ ?_
            | refine AX.one (n := 3) 5 rfl ?_
            | refine AX.one (n := 2) 6 rfl ?_
            | refine AX.one (n := 2) 1 rfl ?_
            | refine AX.one (n := 1) 7 rfl ?_
            | refine AX.one (n := 0) 9 rfl ?_
            | (refine AXS.det (i := 1) rfl rfl rfl (AOp.ll 1) ?_; dsimp only [List.set_cons_succ, List.set_cons_zero])
            | (refine AXS.step (i := 5) rfl rfl rfl (AOp.call rfl rfl hc) ?_ (by rintro _ _ ⟨_, ⟨e, _⟩, _⟩; cases e); rintro _ _ ⟨_, ⟨e, g', rfl⟩, rfl⟩; injection e with e; subst e; dsimp only [List.set_cons_succ, List.set_cons_zero])
            | (refine AXS.det (i := 6) rfl rfl rfl (AOp.lit (e := 25) (sz := 6) (by kernel_rfl) rfl rfl rfl (P_one rfl) (by decide)) ?_; dsimp only [List.set_cons_succ, List.set_cons_zero])
            | (refine AXS.at (q := 7) rfl rfl ?_; refine AXO.append (i := 0) (xs := o.map GFml.av) (e := 25) (sz := 6) (bytes := 104) rfl rfl rfl rfl (by kernel_rfl) (by kernel_rfl) (P_map GFml.size_av) (P_one rfl) rfl (by simp only [List.length_map]; simp; omega) (by simp only [List.length_map]; simp; omega) rfl fun b' c' => ?_; dsimp only [List.set_cons_succ, List.set_cons_zero])
            | (refine AXS.at (q := 9) rfl rfl ?_; refine AXO.sl 1 (fun _ => ?_); dsimp only [List.set_cons_succ, List.set_cons_zero]))
          all_goals
            refine AX.done [(0, .ref rn 0), (2, nilM), (4, .at (.st [.int .i64 k, .int .i64 ar, .str nm, strs [], strs args, .sl (kids.map GFml.av)])), (6, .ref r6 0), (7, .ref r7 0), (59, .sl (kids.map GFml.av)), (60, .int .i64 (kids.map GFml.av).length), (61, .int .i64 i)] rfl ?_
            refine AW.drop (ah' := [.tail b' ((o ++ [y]).map GFml.av).length c' 6, .box r7 (.st [.int .i64 k, .int .i64 ar, .str nm, strs [], strs args2, .slt ((o ++ [y]).map GFml.av) b' c']), TB t, .box rn (nmAV mt n2), .map mt (kvW bav (bmap tk2)) g', .box r6 zF]) (by rw [hm]; exact List.Sublist.cons_cons _ <| List.Sublist.cons_cons _ <| List.Sublist.cons_cons _ <| List.Sublist.cons_cons _ <| List.Sublist.cons_cons _ <| List.sublist_cons_self _ _) ?_
            repeat' (first | (refine AW.r 20 ?_ <;> refine AL.d AOp.ad ?_ <;> refine AL.es 1 ?_ <;> refine AL.nil ?_) | refine AW.jt ?_ | refine AW.jf ?_ | refine AW.jj (fun hb => ?_) (fun hb => ?_) | refine AW.go ?_ | fail)
            refine AW.again_keep (kids.length - (i + 1)) [0, 2, 4, 6, 7, 59, 60, 61] (by omega) ⟨i + 1, o ++ [y], b', c', tk2, n2, g', hlt, rfl, rfl, rfl, ?_⟩
            refine ⟨by rw [he]; simp, by simp; omega, by omega, by omega⟩
        · obtain ⟨he, hol, _, _⟩ := he
          rw [List.drop_eq_nil_of_le (by omega), apL] at he
          simp only [List.append_nil] at he
          rw [he]
          refine AW.weak_box 1 (.st [.int .i64 k, .int .i64 ar, .str nm, strs [], strs args2, .sl (o.map GFml.av)]) rfl (.st (.cons (.refl _) (.cons (.refl _) (.cons (.refl _) (.cons (.refl _) (.cons (.refl _) (.cons .slt .nil))))))) ?_
          repeat' (first | refine AW.re 17 1 ?_ | refine AW.jt ?_ | refine AW.jf ?_ | refine AW.jj (fun hb => ?_) (fun hb => ?_) | refine AW.go ?_ | fail)
          all_goals try (exfalso; simp only [decide_eq_true_eq, decide_eq_false_iff_not, List.length_map] at *; omega)
          repeat' (first | (refine AW.r 21 ?_ <;> (first | refine AL.d AOp.la ?_ | refine AL.d (AOp.lw 0) ?_ | refine AL.d (AOp.lw 1) ?_ | refine AL.d (AOp.lw 2) ?_ | refine AL.d (AOp.lw 3) ?_ | refine AL.d (AOp.lw 4) ?_ | refine AL.d (AOp.lw 5) ?_) <;> (first | refine AL.sl 0 ?_ | refine AL.sl 1 ?_ | refine AL.sl 2 ?_ | refine AL.sl 3 ?_ | refine AL.sl 4 ?_ | refine AL.sl 5 ?_) <;> refine AL.nil ?_) | refine AW.jt ?_ | refine AW.jf ?_ | refine AW.jj (fun hb => ?_) (fun hb => ?_) | refine AW.go ?_ | fail)
          exact AW.retc (.cell 5 rfl rfl (by kernel_rfl) .nil) (.cons _ (.cons _ (.cons_cons _ (.cons_cons _ (.cons_cons _ (.cons _ .slnil)))))) ⟨rfl, gg, rfl⟩
      · refine Tri.enter 76 Tryd.func49 rfl rfl rfl rfl fun Fr w0 => ?_
        repeat' (first | (refine AW.r 0 ?_ <;> (first | refine AL.d (AOp.box_ro (v := .st [.int .i64 k, .int .i64 ar, .str nm, strs [], strs args, .sl (kids.map GFml.av)]) rfl rfl) ?_ | refine AL.d (AOp.box_ro rfl rfl) ?_) <;> refine AL.alloc_z (t := 25) zF (by kernel_rfl) rfl rfl fun r6 => ?_ <;> refine AL.nil ?_) | refine AW.jt ?_ | refine AW.jf ?_ | refine AW.jj (fun hb => ?_) (fun hb => ?_) | refine AW.go ?_ | fail)
        repeat' (first | (refine AW.r 1 ?_ <;> (first | refine AL.d AOp.la ?_ | refine AL.d (AOp.lw 0) ?_) <;> refine AL.d (AOp.call_nil2 rfl rfl (hW0.pure _)) ?_ <;> refine AL.alloc_z (t := 25) zF (by kernel_rfl) rfl rfl fun r7 => ?_ <;> refine AL.sl 0 ?_ <;> refine AL.nil ?_) | refine AW.jt ?_ | refine AW.jf ?_ | refine AW.jj (fun hb => ?_) (fun hb => ?_) | refine AW.go ?_ | fail)
        repeat' (first | (refine AW.r 2 ?_ <;> (first | refine AL.d AOp.fa ?_ | refine AL.d (AOp.fr 4) ?_) <;> (first | refine AL.d AOp.la ?_ | refine AL.d (AOp.ll 0) ?_) <;> refine AL.es 1 ?_ <;> refine AL.d (AOp.call rfl rfl (Tri.aroundD hR [_, _, _, _, _] [])) ?_ <;> (first | refine AL.d AOp.fa ?_ | refine AL.d (AOp.fr 4) ?_) <;> refine AL.sl 0 ?_ <;> refine AL.nil ?_) | (refine AW.r 3 ?_ <;> (first | refine AL.d AOp.fa ?_ | refine AL.d (AOp.fr 3) ?_) <;> (first | refine AL.d AOp.la ?_ | refine AL.d (AOp.ll 0) ?_) <;> refine AL.es 2 ?_ <;> refine AL.nil ?_) | refine AW.jt ?_ | refine AW.jf ?_ | refine AW.jj (fun hb => ?_) (fun hb => ?_) | refine AW.go ?_ | fail)
        refine AW.weak_box 0 (.st [.int .i64 k, .int .i64 ar, .str nm, strs [], strs args2, .slt [] none 0]) rfl (.st (.cons (.refl _) (.cons (.refl _) (.cons (.refl _) (.cons (.refl _) (.cons (.refl _) (.cons wk_nil .nil))))))) ?_
        refine AW.own_nil 6 ?_
        refine AW.perm (b := [.tail none 0 0 6, .box r7 (.st [.int .i64 k, .int .i64 ar, .str nm, strs [], strs args2, .slt [] none 0]), TB t, .box rn (nmAV mt n), .map mt (kvW bav (bmap tk)) g0, .map mb (kvW AV.str M1) gm, .box r6 zF]) ((List.perm_append_comm (l₁ := [_]) (l₂ := [_, _, _, _])).cons _ |>.cons _) ?_
        repeat' (first | refine AW.re 16 4 ?_ | refine AW.jt ?_ | refine AW.jf ?_ | refine AW.jj (fun hb => ?_) (fun hb => ?_) | refine AW.go ?_ | fail)
        refine AW.prune [0, 2, 4, 6, 7, 59, 60, 61] (AW.loop (fun mz af h => ∃ (i : Nat) (o : List GFml) (tt : Option Nat) (cc : Nat) (tkk : List ByteArray) (nn : Nat) (gg : MG), i ≤ kids.length ∧ mz = kids.length - i ∧ af = [(0, .ref rn 0), (2, .map mb), (4, .at (.st [.int .i64 k, .int .i64 ar, .str nm, strs [], strs args, .sl (kids.map GFml.av)])), (6, .ref r6 0), (7, .ref r7 0), (59, .sl (kids.map GFml.av)), (60, .int .i64 (kids.map GFml.av).length), (61, .int .i64 i)] ∧ h = [.tail tt (o.map GFml.av).length cc 6, .box r7 (.st [.int .i64 k, .int .i64 ar, .str nm, strs [], strs args2, .slt (o.map GFml.av) tt cc]), TB t, .box rn (nmAV mt nn), .map mt (kvW bav (bmap tkk)) gg, .map mb (kvW AV.str M1) gm, .box r6 zF] ∧ (apL kids σ tk n = (o ++ (apL (kids.drop i) σ tkk nn).1, (apL (kids.drop i) σ tkk nn).2) ∧ o.length = i ∧ tkk.length + (bdL (kids.drop i)).length ≤ T ∧ nn + (bdL (kids.drop i)).length * (T + 1) ≤ 9000000000)) kids.length ⟨0, [], none, 0, tk, n, g0, Nat.zero_le _, rfl, rfl, rfl, ⟨rfl, rfl, hT1, hT2⟩⟩ ?_)
        rintro mz af h ⟨i, o, tt, cc, tkk, nn, gg, hi, rfl, rfl, rfl, he⟩
        refine AW.seq ?_
        by_cases hlt : i < kids.length
        · obtain ⟨he, hol, hb1, hb2⟩ := he
          obtain ⟨x, hx⟩ := get_lt hlt
          have hx' : (kids.map GFml.av)[((i : Nat) : Int).toNat]? = some (x.st) := GFml.get hx
          have hxm := List.mem_of_getElem? hx
          have hnx := ndFs_mem hxm
          rw [drop_cons hx, bdL, List.length_append] at hb1 hb2
          rw [Nat.add_mul] at hb2
          rw [drop_cons hx, apL] at he
          have hbd := ap_bd T x σ tkk nn (by omega)
          have htk := ap_tk x σ tkk nn
          have hc := Tri.around (ih (ndF x) (by omega) x (.map mb) [.map mb (kvW AV.str M1) gm] σ tkk nn gg (Nat.le_refl _) (q7 x hxm) hM2 (by omega) (by omega)) [.tail tt (o.map GFml.av).length cc 6, .box r7 (.st [.int .i64 k, .int .i64 ar, .str nm, strs [], strs args2, .slt (o.map GFml.av) tt cc])] []
          generalize hap : apF x σ tkk nn = R at *
          obtain ⟨y, tk2, n2⟩ := R
          simp only at htk hbd he hc
          have htl : tk2.length = tkk.length + (bdF x).length := by rw [htk, List.length_append, hbd.2.2]
          have hol2 : o.length ≤ 1353245080300 := by omega
          have hm : (o ++ [y]).map GFml.av = o.map GFml.av ++ [y.st] := by simp [GFml.av_eq]
          repeat' (first | refine AW.re 17 1 ?_ | refine AW.jt ?_ | refine AW.jf ?_ | refine AW.jj (fun hb => ?_) (fun hb => ?_) | refine AW.go ?_ | fail)
          all_goals try (exfalso; simp only [decide_eq_true_eq, decide_eq_false_iff_not, List.length_map] at *; omega)
          repeat' (first | (refine AW.r 18 ?_ <;> refine AL.d (AOp.index_sl rfl rfl (by omega) hx' (by kernel_rfl) rfl) ?_ <;> (first | refine AL.d AOp.la ?_ | refine AL.d (AOp.lw 0) ?_ | refine AL.d (AOp.lw 1) ?_ | refine AL.d (AOp.lw 2) ?_) <;> refine AL.alloc_z (t := 25) zF (by kernel_rfl) rfl rfl fun r14 => ?_ <;> (first | refine AL.sl 0 ?_ | refine AL.sl 1 ?_ | refine AL.sl 2 ?_) <;> refine AL.nil ?_) | refine AW.jt ?_ | refine AW.jf ?_ | refine AW.jj (fun hb => ?_) (fun hb => ?_) | refine AW.go ?_ | fail)
          repeat' (first | refine AW.jt ?_ | refine AW.jf ?_ | refine AW.jj (fun hb => ?_) (fun hb => ?_) | refine AW.go ?_ | fail)
          refine AW.explore [false, true, true, true, true, true, true] [1, 5, 6, 7, 9] rfl (by kernel_rfl) (by kernel_rfl) (by kernel_rfl) (by kernel_rfl) ?_
          refine AQE.op rfl (AOp.fr 5) rfl rfl ?_
          refine AQE.hole rfl rfl ?_
          refine AQE.ev rfl rfl rfl rfl ?_
          refine AQE.op rfl (AOp.lw 0) rfl rfl ?_
          refine AQE.ev rfl rfl rfl rfl ?_
          refine AQE.hole rfl rfl ?_
          refine AQE.hole rfl rfl ?_
          refine AQE.hole rfl rfl ?_
          refine AQE.op rfl (AOp.fr 5) rfl rfl ?_
          refine AQE.hole rfl rfl ?_
          refine AQE.nil ?_
          repeat' (first
            | refine AX.two (n := 4) 1 5 rfl ?_ ?_
            | refine AX.two (n := 3) 1 6 rfl ?_ ?_
            | refine AX.one (n := 3) 5 rfl ?_
            | refine AX.one (n := 2) 6 rfl ?_
            | refine AX.one (n := 2) 1 rfl ?_
            | refine AX.one (n := 1) 7 rfl ?_
            | refine AX.one (n := 0) 9 rfl ?_
            | (refine AXS.det (i := 1) rfl rfl rfl (AOp.ll 1) ?_; dsimp only [List.set_cons_succ, List.set_cons_zero])
            | (refine AXS.step (i := 5) rfl rfl rfl (AOp.call rfl rfl hc) ?_ (by rintro _ _ ⟨_, ⟨e, _⟩, _⟩; cases e); rintro _ _ ⟨_, ⟨e, g', rfl⟩, rfl⟩; injection e with e; subst e; dsimp only [List.set_cons_succ, List.set_cons_zero])
            | (refine AXS.det (i := 6) rfl rfl rfl (AOp.lit (e := 25) (sz := 6) (by kernel_rfl) rfl rfl rfl (P_one rfl) (by decide)) ?_; dsimp only [List.set_cons_succ, List.set_cons_zero])
            | (refine AXS.at (q := 7) rfl rfl ?_; refine AXO.append (i := 0) (xs := o.map GFml.av) (e := 25) (sz := 6) (bytes := 104) rfl rfl rfl rfl (by kernel_rfl) (by kernel_rfl) (P_map GFml.size_av) (P_one rfl) rfl (by simp only [List.length_map]; simp; omega) (by simp only [List.length_map]; simp; omega) rfl fun b' c' => ?_; dsimp only [List.set_cons_succ, List.set_cons_zero])
            | (refine AXS.at (q := 9) rfl rfl ?_; refine AXO.sl 1 (fun _ => ?_); dsimp only [List.set_cons_succ, List.set_cons_zero]))
          all_goals
            refine AX.done [(0, .ref rn 0), (2, .map mb), (4, .at (.st [.int .i64 k, .int .i64 ar, .str nm, strs [], strs args, .sl (kids.map GFml.av)])), (6, .ref r6 0), (7, .ref r7 0), (59, .sl (kids.map GFml.av)), (60, .int .i64 (kids.map GFml.av).length), (61, .int .i64 i)] rfl ?_
            refine AW.drop (ah' := [.tail b' ((o ++ [y]).map GFml.av).length c' 6, .box r7 (.st [.int .i64 k, .int .i64 ar, .str nm, strs [], strs args2, .slt ((o ++ [y]).map GFml.av) b' c']), TB t, .box rn (nmAV mt n2), .map mt (kvW bav (bmap tk2)) g', .map mb (kvW AV.str M1) gm, .box r6 zF]) (by rw [hm]; exact List.Sublist.cons_cons _ <| List.Sublist.cons_cons _ <| List.Sublist.cons_cons _ <| List.Sublist.cons_cons _ <| List.Sublist.cons_cons _ <| List.Sublist.cons_cons _ <| List.sublist_cons_self _ _) ?_
            repeat' (first | (refine AW.r 20 ?_ <;> refine AL.d AOp.ad ?_ <;> refine AL.es 1 ?_ <;> refine AL.nil ?_) | refine AW.jt ?_ | refine AW.jf ?_ | refine AW.jj (fun hb => ?_) (fun hb => ?_) | refine AW.go ?_ | fail)
            refine AW.again_keep (kids.length - (i + 1)) [0, 2, 4, 6, 7, 59, 60, 61] (by omega) ⟨i + 1, o ++ [y], b', c', tk2, n2, g', hlt, rfl, rfl, rfl, ?_⟩
            refine ⟨by rw [he]; simp, by simp; omega, by omega, by omega⟩
        · obtain ⟨he, hol, _, _⟩ := he
          rw [List.drop_eq_nil_of_le (by omega), apL] at he
          simp only [List.append_nil] at he
          rw [he]
          refine AW.weak_box 1 (.st [.int .i64 k, .int .i64 ar, .str nm, strs [], strs args2, .sl (o.map GFml.av)]) rfl (.st (.cons (.refl _) (.cons (.refl _) (.cons (.refl _) (.cons (.refl _) (.cons (.refl _) (.cons .slt .nil))))))) ?_
          repeat' (first | refine AW.re 17 1 ?_ | refine AW.jt ?_ | refine AW.jf ?_ | refine AW.jj (fun hb => ?_) (fun hb => ?_) | refine AW.go ?_ | fail)
          all_goals try (exfalso; simp only [decide_eq_true_eq, decide_eq_false_iff_not, List.length_map] at *; omega)
          repeat' (first | (refine AW.r 21 ?_ <;> (first | refine AL.d AOp.la ?_ | refine AL.d (AOp.lw 0) ?_ | refine AL.d (AOp.lw 1) ?_ | refine AL.d (AOp.lw 2) ?_ | refine AL.d (AOp.lw 3) ?_ | refine AL.d (AOp.lw 4) ?_ | refine AL.d (AOp.lw 5) ?_ | refine AL.d (AOp.lw 6) ?_) <;> (first | refine AL.sl 0 ?_ | refine AL.sl 1 ?_ | refine AL.sl 2 ?_ | refine AL.sl 3 ?_ | refine AL.sl 4 ?_ | refine AL.sl 5 ?_ | refine AL.sl 6 ?_) <;> refine AL.nil ?_) | refine AW.jt ?_ | refine AW.jf ?_ | refine AW.jj (fun hb => ?_) (fun hb => ?_) | refine AW.go ?_ | fail)
          exact AW.retc (.cell 6 rfl rfl (by kernel_rfl) .nil) (.cons _ (.cons _ (.cons_cons _ (.cons_cons _ (.cons_cons _ (.cons_cons _ (.cons _ .slnil))))))) ⟨rfl, gg, rfl⟩
    · have hvl : 0 < vars.length := List.length_pos_iff.2 hv
      have hW1' := hW1 hv
      generalize hargs2 : args.map (rnS σ) = args2 at *
      refine Tri.enter 76 Tryd.func49 rfl rfl rfl rfl fun Fr w0 => ?_
      repeat' (first | (refine AW.r 0 ?_ <;> (first | refine AL.d (AOp.box_ro (v := .st [.int .i64 k, .int .i64 ar, .str nm, strs vars, strs args, .sl (kids.map GFml.av)]) rfl rfl) ?_ | refine AL.d (AOp.box_ro rfl rfl) ?_) <;> refine AL.alloc_z (t := 25) zF (by kernel_rfl) rfl rfl fun r6 => ?_ <;> refine AL.nil ?_) | refine AW.jt ?_ | refine AW.jf ?_ | refine AW.jj (fun hb => ?_) (fun hb => ?_) | refine AW.go ?_ | fail)
      repeat' (first | (refine AW.r 1 ?_ <;> (first | refine AL.d AOp.la ?_ | refine AL.d (AOp.lw 0) ?_) <;> (refine AL.callQ_nil2 rfl rfl (hW1'.pureE _) rfl ?_ ?_; rotate_left; rintro _ _ ⟨_, ⟨_, _, e, _⟩, _⟩; cases e; rintro _ _ ⟨_, ⟨vb, vc, e, rfl⟩, rfl⟩; injection e with e; subst e) <;> refine AL.alloc_z (t := 25) zF (by kernel_rfl) rfl rfl fun r7 => ?_ <;> refine AL.sl 0 ?_ <;> refine AL.nil ?_) | refine AW.jt ?_ | refine AW.jf ?_ | refine AW.jj (fun hb => ?_) (fun hb => ?_) | refine AW.go ?_ | fail)
      repeat' (first | (refine AW.r 2 ?_ <;> (first | refine AL.d AOp.fa ?_ | refine AL.d (AOp.fr 4) ?_) <;> (first | refine AL.d AOp.la ?_ | refine AL.d (AOp.ll 0) ?_) <;> refine AL.es 1 ?_ <;> refine AL.d (AOp.call rfl rfl (tailD hR [_, _, _, _, _, _])) ?_ <;> (first | refine AL.d AOp.fa ?_ | refine AL.d (AOp.fr 4) ?_) <;> refine AL.sl 0 ?_ <;> refine AL.nil ?_) | (refine AW.r 3 ?_ <;> (first | refine AL.d AOp.fa ?_ | refine AL.d (AOp.fr 3) ?_) <;> (first | refine AL.d AOp.la ?_ | refine AL.d (AOp.ll 0) ?_) <;> refine AL.es 2 ?_ <;> refine AL.nil ?_) | refine AW.jt ?_ | refine AW.jf ?_ | refine AW.jj (fun hb => ?_) (fun hb => ?_) | refine AW.go ?_ | fail)
      all_goals try (exfalso; simp only [decide_eq_true_eq, decide_eq_false_iff_not, List.length_map] at *; omega)
      repeat' (first | (refine AW.r 4 ?_ <;> refine AL.makeMap rfl fun m8 => ?_ <;> refine AL.es 1 ?_ <;> refine AL.nil ?_) | refine AW.jt ?_ | refine AW.jf ?_ | refine AW.jj (fun hb => ?_) (fun hb => ?_) | fail)
      refine AW.seq ?_
      refine AW.cut (fun af ah => ∃ (A : List (ByteArray × ByteArray)) (g8 : MG), (A.map (·.1)).Nodup ∧ (∀ v, lookA A v = σ v) ∧ af = [(0, .ref rn 0), (4, .at (.st [.int .i64 k, .int .i64 ar, .str nm, strs vars, strs args, .sl (kids.map GFml.av)])), (6, .ref r6 0), (7, .ref r7 0), (8, .map m8)] ∧ ah = .map m8 (kvW AV.str A) g8 :: [.box r7 (.st [.int .i64 k, .int .i64 ar, .str nm, .osl vb vars.length vc, strs args2, nilS]), .row vb (vars.map AV.str), .box r6 zF, TB t, .box rn (nmAV mt n), .map mt (kvW bav (bmap tk)) g0] ++ X) ?_ ?_
      · rcases hM with ⟨rfl, rfl, rfl⟩ | ⟨mb, M1, gm, rfl, rfl, hM3, hM4⟩
        · repeat' (first | (refine AW.r 5 ?_ <;> refine AL.es 1 ?_ <;> refine AL.range_nil 9 .string rfl (by kernel_rfl) rfl fun it => ?_ <;> refine AL.nil ?_) | refine AW.jt ?_ | refine AW.jf ?_ | refine AW.jj (fun hb => ?_) (fun hb => ?_) | refine AW.go ?_ | fail)
          refine AW.prune [0, 4, 6, 7, 8, 28] (AW.loop (fun m af h => m = 0 ∧ af = [(0, .ref rn 0), (4, .at (.st [.int .i64 k, .int .i64 ar, .str nm, strs vars, strs args, .sl (kids.map GFml.av)])), (6, .ref r6 0), (7, .ref r7 0), (8, .map m8), (28, .ref it 0)] ∧ h = .niter it :: .map m8 (kvW AV.str []) ⟨[], 0⟩ :: [.box r7 (.st [.int .i64 k, .int .i64 ar, .str nm, .osl vb vars.length vc, strs args2, nilS]), .row vb (vars.map AV.str), .box r6 zF, TB t, .box rn (nmAV mt n), .map mt (kvW bav (bmap tk)) g0]) 0 ⟨rfl, rfl, rfl⟩ ?_)
          rintro m af h ⟨rfl, rfl, rfl⟩
          refine AW.seq ?_
          repeat' (first | (refine AW.r 6 ?_ <;> refine AL.d (AOp.next_nil 0 rfl rfl) ?_ <;> refine AL.es 1 ?_ <;> refine AL.nil ?_) | refine AW.jt ?_ | refine AW.jf ?_ | refine AW.jj (fun hb => ?_) (fun hb => ?_) | refine AW.go ?_ | fail)
          refine AW.drop (List.sublist_cons_self _ _) ?_
          exact AW.meet [0, 4, 6, 7, 8] ⟨[], _, List.nodup_nil, fun v => rfl, rfl, rfl⟩
        · repeat' (first | (refine AW.r 5 ?_ <;> refine AL.es 1 ?_ <;> refine AL.range 7 9 .string rfl rfl (by kernel_rfl) rfl fun it => ?_ <;> refine AL.nil ?_) | refine AW.jt ?_ | refine AW.jf ?_ | refine AW.jj (fun hb => ?_) (fun hb => ?_) | refine AW.go ?_ | fail)
          refine AW.prune [0, 4, 6, 7, 8, 28] (AW.loop (fun m af h => ∃ (idx : List Nat) (A : List (ByteArray × ByteArray)) (g8 : MG), CopyOf M1 A idx ∧ idx.Nodup ∧ (∀ j ∈ idx, j < M1.length) ∧ m = M1.length - idx.length ∧ af = [(0, .ref rn 0), (4, .at (.st [.int .i64 k, .int .i64 ar, .str nm, strs vars, strs args, .sl (kids.map GFml.av)])), (6, .ref r6 0), (7, .ref r7 0), (8, .map m8), (28, .ref it 0)] ∧ h = .iter it mb gm.clk (seenOf gm idx) :: .map m8 (kvW AV.str A) g8 :: [.box r7 (.st [.int .i64 k, .int .i64 ar, .str nm, .osl vb vars.length vc, strs args2, nilS]), .row vb (vars.map AV.str), .box r6 zF, TB t, .box rn (nmAV mt n), .map mt (kvW bav (bmap tk)) g0] ++ [.map mb (kvW AV.str M1) gm]) M1.length ⟨[], [], ⟨[], 0⟩, ⟨List.nodup_nil, by simp⟩, List.nodup_nil, by simp, rfl, rfl, rfl⟩ ?_)
          rintro m af h ⟨idx, A, g8, hA, hn1, hn2, rfl, rfl, rfl⟩
          refine AW.seq ?_
          have hkl : (kvW AV.str M1).length = M1.length := by simp [kvW]
          repeat' (first | (refine AW.r 6 ?_ <;> refine AL.next 8 0 idx rfl rfl rfl (by rw [hkl]; exact hn2) rfl (fun hall => ?_) (fun j key v hk1 hk2 => ?_) <;> refine AL.es 1 ?_ <;> refine AL.nil ?_) | refine AW.jt ?_ | refine AW.jf ?_ | refine AW.jj (fun hb => ?_) (fun hb => ?_) | refine AW.go ?_ | fail)
          · refine AW.drop (List.sublist_cons_self _ _) ?_
            rw [hkl] at hall
            exact AW.meet [0, 4, 6, 7, 8] ⟨A, _, hA.1, fun v => by rw [hA.all hM3 hall, hM4], rfl, rfl⟩
          · obtain ⟨kk, ww, hkw, rfl, rfl⟩ : ∃ kk ww, M1[j]? = some (kk, ww) ∧ key = .str kk ∧ v = .str ww := by
              unfold kvW at hk2
              rw [List.getElem?_map] at hk2
              cases hj : M1[j]? with
              | none => rw [hj] at hk2; cases hk2
              | some p => rw [hj] at hk2; simp only [Option.map_some, Option.some.injEq, Prod.mk.injEq] at hk2; exact ⟨p.1, p.2, rfl, hk2.1.symm, hk2.2.symm⟩
            have hjl := (List.getElem?_eq_some_iff.1 hkw).1
            have hn3 : (idx ++ [j]).Nodup := List.nodup_append.2 ⟨hn1, by simp, by rintro a ha b hb rfl; rw [List.mem_singleton.1 hb] at ha; exact hk1 ha⟩
            have hn4 : ∀ q ∈ idx ++ [j], q < M1.length := by
              intro q hq
              rcases List.mem_append.1 hq with hq | hq
              · exact hn2 q hq
              · rw [List.mem_singleton.1 hq]; exact hjl
            have hlen := nodup_bound M1.length _ hn3 hn4
            rw [List.length_append, List.length_singleton] at hlen
            repeat' (first | (refine AW.r 7 ?_ <;> refine AL.d (AOp.entry (i := 8) (j := 0) (k := j) rfl rfl rfl hk2) ?_ <;> refine AL.es 4 ?_ <;> refine AL.nil ?_) | (refine AW.r 8 ?_ <;> refine AL.es 3 ?_ <;> refine AL.setS 1 9 AV.str ww rfl rfl rfl rfl (by kernel_rfl) ?_ <;> refine AL.nil ?_) | refine AW.jt ?_ | refine AW.jf ?_ | refine AW.jj (fun hb => ?_) (fun hb => ?_) | refine AW.go ?_ | fail)
            exact AW.again_keep (M1.length - (idx ++ [j]).length) [0, 4, 6, 7, 8, 28] (by rw [List.length_append, List.length_singleton]; omega) ⟨idx ++ [j], setA A kk ww, _, hA.step hM3 hk1 hkw, hn3, hn4, rfl, rfl, rfl⟩
      · rintro af ah ⟨A, g8, hA1, hA2, rfl, rfl⟩
        repeat' (first | refine AW.re 9 4 ?_ | refine AW.jt ?_ | refine AW.jf ?_ | refine AW.jj (fun hb => ?_) (fun hb => ?_) | refine AW.go ?_ | fail)
        refine AW.prune [0, 4, 6, 7, 8, 38, 39, 40] (AW.loop (fun mz af h => ∃ (i : Nat) (B : List (ByteArray × ByteArray)) (gB : MG) (W : List ByteArray) (tk1 : List ByteArray) (n1 : Nat) (g1 : MG), i ≤ vars.length ∧ mz = vars.length - i ∧ af = [(0, .ref rn 0), (4, .at (.st [.int .i64 k, .int .i64 ar, .str nm, strs vars, strs args, .sl (kids.map GFml.av)])), (6, .ref r6 0), (7, .ref r7 0), (8, .map m8), (38, strs vars), (39, .int .i64 (vars.map AV.str).length), (40, .int .i64 i)] ∧ h = .map m8 (kvW AV.str B) gB :: .box r7 (.st [.int .i64 k, .int .i64 ar, .str nm, .osl vb vars.length vc, strs args2, nilS]) :: .row vb (W.map AV.str ++ (vars.drop i).map AV.str) :: .box r6 zF :: (coreH t rn mt n1 tk1 g1 ++ X) ∧ (W.length = i ∧ tk1 = tk ++ W ∧ frL vars.length tk n = (W ++ (frL (vars.length - i) tk1 n1).1, (frL (vars.length - i) tk1 n1).2) ∧ (B.map (·.1)).Nodup ∧ (∀ v, lookA B v = upV (vars.take i) W σ v) ∧ n1 ≤ n + i * (T + 1))) vars.length ⟨0, A, g8, [], tk, n, g0, Nat.zero_le _, rfl, rfl, rfl, ⟨rfl, by simp, rfl, hA1, hA2, by omega⟩⟩ ?_)
        rintro mz af h ⟨i, B, gB, W, tk1, n1, g1, hi, rfl, rfl, rfl, he⟩
        refine AW.seq ?_
        by_cases hlt : i < vars.length
        · obtain ⟨hW, htk, he, hB1, hB2, hnn⟩ := he
          obtain ⟨x, hx⟩ := get_lt hlt
          have hx' : (vars.map AV.str)[((i : Nat) : Int).toNat]? = some (.str x) := map_get hx
          rw [drop_cons hx]
          have hi1 : (i + 1) * (T + 1) ≤ vars.length * (T + 1) := Nat.mul_le_mul_right _ hlt
          rw [Nat.succ_mul] at hi1
          have htl : tk1.length ≤ T := by rw [htk, List.length_append, hW]; omega
          have hc := Tri.around (n_fresh t rn mt tk1 n1 g1 (by omega)) [.map m8 (kvW AV.str B) gB, .box r7 (.st [.int .i64 k, .int .i64 ar, .str nm, .osl vb vars.length vc, strs args2, nilS]), .row vb (W.map AV.str ++ (x :: vars.drop (i + 1)).map AV.str), .box r6 zF] X
          have hspec := frS_spec tk1 n1
          rw [show vars.length - i = (vars.length - (i + 1)) + 1 by omega, frL] at he
          generalize hm : frS tk1 n1 = m at *
          generalize hw : wB m = w at *
          have hL : lookA (setA B x w) x = some w := by rw [look_setA, if_pos rfl]
          repeat' (first | refine AW.re 10 1 ?_ | (refine AW.r 11 ?_ <;> refine AL.es 1 ?_ <;> refine AL.d (AOp.index_sl rfl rfl (by omega) hx' (by kernel_rfl) rfl) ?_ <;> refine AL.es 3 ?_ <;> refine AL.nil ?_) | refine AW.jt ?_ | refine AW.jf ?_ | refine AW.jj (fun hb => ?_) (fun hb => ?_) | refine AW.go ?_ | fail)
          all_goals try (exfalso; simp only [decide_eq_true_eq, decide_eq_false_iff_not, List.length_map] at *; omega)
          repeat' (first | (refine AW.r 12 ?_ <;> refine AL.es 3 ?_ <;> (refine AL.callQ rfl rfl hc rfl ?_ ?_; rotate_left; rintro _ _ ⟨_, ⟨e, _⟩, _⟩; cases e; rintro _ _ ⟨_, ⟨e, g', rfl⟩, rfl⟩; injection e with e; subst e) <;> refine AL.setS 0 9 AV.str w rfl rfl rfl rfl (by kernel_rfl) ?_ <;> refine AL.nil ?_) | refine AW.jt ?_ | refine AW.jf ?_ | refine AW.jj (fun hb => ?_) (fun hb => ?_) | refine AW.go ?_ | fail)
          repeat' (first | (refine AW.r 13 ?_ <;> (first | refine AL.d AOp.fa ?_ | refine AL.d (AOp.fr 3) ?_) <;> (first | refine AL.d AOp.la ?_ | refine AL.d (AOp.ll 0) ?_ | refine AL.d (AOp.ll 1) ?_) <;> refine AL.es 3 ?_ <;> refine AL.d (AOp.lookS_hit 0 9 (g := AV.str) (ok := false) hL rfl rfl rfl (by kernel_rfl)) ?_ <;> refine AL.d (AOp.index_osl rfl rfl (by omega) (by omega) (by kernel_rfl)) ?_ <;> (first | (refine AL.store_cell 2 rfl rfl rfl (by simp; omega) rfl rfl (by kernel_rfl) ?_) | refine AL.sl 0 ?_ | refine AL.sl 1 ?_) <;> refine AL.nil ?_) | refine AW.jt ?_ | refine AW.jf ?_ | refine AW.jj (fun hb => ?_) (fun hb => ?_) | refine AW.go ?_ | fail)
          have hrow : (W.map AV.str ++ (x :: vars.drop (i + 1)).map AV.str).set ((i : Nat) : Int).toNat (.str w) = (W ++ [w]).map AV.str ++ (vars.drop (i + 1)).map AV.str := by
            rw [Int.toNat_natCast, List.set_append_right _ _ (by simp; omega)]; simp [hW]
          refine AW.frame_eq rfl (show _ = .map m8 (kvW AV.str (setA B x w)) (gsetA B gB x) :: .box r7 (.st [.int .i64 k, .int .i64 ar, .str nm, .osl vb vars.length vc, strs args2, nilS]) :: .row vb ((W ++ [w]).map AV.str ++ (vars.drop (i + 1)).map AV.str) :: .box r6 zF :: (coreH t rn mt (m + 1) (tk1 ++ [w]) g' ++ X) from by rw [← hrow]; rfl) ?_
          repeat' (first | (refine AW.r 14 ?_ <;> refine AL.d AOp.ad ?_ <;> refine AL.es 1 ?_ <;> refine AL.nil ?_) | refine AW.jt ?_ | refine AW.jf ?_ | refine AW.jj (fun hb => ?_) (fun hb => ?_) | refine AW.go ?_ | fail)
          refine AW.again_keep (vars.length - (i + 1)) [0, 4, 6, 7, 8, 38, 39, 40] (by omega) ⟨i + 1, setA B x w, _, W ++ [w], tk1 ++ [w], m + 1, g', hlt, rfl, rfl, rfl, ?_⟩
          refine ⟨by simp [hW], by rw [htk, List.append_assoc], by rw [he]; simp, setA_nodup hB1, fun v => ?_, by rw [Nat.succ_mul]; omega⟩
          rw [look_setA, hB2, List.take_add_one, hx]
          show _ = upV (vars.take i ++ [x]) (W ++ [w]) σ v
          exact (congrFun (upV_snoc x w (vars.take i) W σ (by rw [List.length_take, hW]; omega)) v).symm
        · obtain ⟨hW, htk, he, hB1, hB2, hnn⟩ := he
          obtain rfl : i = vars.length := by omega
          rw [Nat.sub_self, frL] at he
          simp only [List.append_nil] at he
          rw [List.take_length] at hB2
          rw [he, List.drop_length, List.map_nil, List.append_nil]
          simp only
          rw [← htk]
          repeat' (first | refine AW.re 10 1 ?_ | refine AW.jt ?_ | refine AW.jf ?_ | refine AW.jj (fun hb => ?_) (fun hb => ?_) | refine AW.go ?_ | fail)
          all_goals try (exfalso; simp only [decide_eq_true_eq, decide_eq_false_iff_not, List.length_map] at *; omega)
          refine AW.freeze_box 2 1 (n := vars.length) (c := vc) (.st [.int .i64 k, .int .i64 ar, .str nm, strs W, strs args2, nilS]) rfl rfl (by rw [List.length_map, hW]) (by intro y hy; obtain ⟨z, _, rfl⟩ := List.mem_map.1 hy; rfl) (fun S w h cs hr => relc_set 3 (strs W) rfl h hr) ?_
          repeat' (first | refine AW.re 15 2 ?_ | refine AW.jt ?_ | refine AW.jf ?_ | refine AW.jj (fun hb => ?_) (fun hb => ?_) | refine AW.go ?_ | fail)
          refine AW.weak_box 1 (.st [.int .i64 k, .int .i64 ar, .str nm, strs W, strs args2, .slt [] none 0]) rfl (.st (.cons (.refl _) (.cons (.refl _) (.cons (.refl _) (.cons (.refl _) (.cons (.refl _) (.cons wk_nil .nil))))))) ?_
          refine AW.own_nil 6 ?_
          refine AW.perm (b := [.tail none 0 0 6, .box r7 (.st [.int .i64 k, .int .i64 ar, .str nm, strs W, strs args2, .slt [] none 0]), TB t, .box rn (nmAV mt n1), .map mt (kvW bav (bmap tk1)) g1, .map m8 (kvW AV.str B) gB, .box r6 zF] ++ X) (((permAp _ _ _ _ _ _ X)).cons _) ?_
          have hT1 : tk1.length + (bdL kids).length ≤ T := by rw [htk, List.length_append, hW]; omega
          have hT2 : n1 + (bdL kids).length * (T + 1) ≤ 9000000000 := by omega
          have hM2 : ApM (.map m8) [.map m8 (kvW AV.str B) gB] (upV vars W σ) := .inr ⟨m8, B, gB, rfl, rfl, hB1, hB2⟩
          repeat' (first | refine AW.re 16 4 ?_ | refine AW.jt ?_ | refine AW.jf ?_ | refine AW.jj (fun hb => ?_) (fun hb => ?_) | refine AW.go ?_ | fail)
          refine AW.prune [0, 2, 4, 6, 7, 59, 60, 61] (AW.loop (fun mz af h => ∃ (i : Nat) (o : List GFml) (tt : Option Nat) (cc : Nat) (tkk : List ByteArray) (nn : Nat) (gg : MG), i ≤ kids.length ∧ mz = kids.length - i ∧ af = [(0, .ref rn 0), (2, .map m8), (4, .at (.st [.int .i64 k, .int .i64 ar, .str nm, strs vars, strs args, .sl (kids.map GFml.av)])), (6, .ref r6 0), (7, .ref r7 0), (59, .sl (kids.map GFml.av)), (60, .int .i64 (kids.map GFml.av).length), (61, .int .i64 i)] ∧ h = [.tail tt (o.map GFml.av).length cc 6, .box r7 (.st [.int .i64 k, .int .i64 ar, .str nm, strs W, strs args2, .slt (o.map GFml.av) tt cc]), TB t, .box rn (nmAV mt nn), .map mt (kvW bav (bmap tkk)) gg, .map m8 (kvW AV.str B) gB, .box r6 zF] ++ X ∧ (apL kids (upV vars W σ) tk1 n1 = (o ++ (apL (kids.drop i) (upV vars W σ) tkk nn).1, (apL (kids.drop i) (upV vars W σ) tkk nn).2) ∧ o.length = i ∧ tkk.length + (bdL (kids.drop i)).length ≤ T ∧ nn + (bdL (kids.drop i)).length * (T + 1) ≤ 9000000000)) kids.length ⟨0, [], none, 0, tk1, n1, g1, Nat.zero_le _, rfl, rfl, rfl, ⟨rfl, rfl, hT1, hT2⟩⟩ ?_)
          rintro mz af h ⟨i, o, tt, cc, tkk, nn, gg, hi, rfl, rfl, rfl, he⟩
          refine AW.seq ?_
          by_cases hlt : i < kids.length
          · obtain ⟨he, hol, hb1, hb2⟩ := he
            obtain ⟨x, hx⟩ := get_lt hlt
            have hx' : (kids.map GFml.av)[((i : Nat) : Int).toNat]? = some (x.st) := GFml.get hx
            have hxm := List.mem_of_getElem? hx
            have hnx := ndFs_mem hxm
            rw [drop_cons hx, bdL, List.length_append] at hb1 hb2
            rw [Nat.add_mul] at hb2
            rw [drop_cons hx, apL] at he
            have hbd := ap_bd T x (upV vars W σ) tkk nn (by omega)
            have htk := ap_tk x (upV vars W σ) tkk nn
            have hc := Tri.around (ih (ndF x) (by omega) x (.map m8) [.map m8 (kvW AV.str B) gB] (upV vars W σ) tkk nn gg (Nat.le_refl _) (q7 x hxm) hM2 (by omega) (by omega)) [.tail tt (o.map GFml.av).length cc 6, .box r7 (.st [.int .i64 k, .int .i64 ar, .str nm, strs W, strs args2, .slt (o.map GFml.av) tt cc])] []
            generalize hap : apF x (upV vars W σ) tkk nn = R at *
            obtain ⟨y, tk2, n2⟩ := R
            simp only at htk hbd he hc
            have htl : tk2.length = tkk.length + (bdF x).length := by rw [htk, List.length_append, hbd.2.2]
            have hol2 : o.length ≤ 1353245080300 := by omega
            have hm : (o ++ [y]).map GFml.av = o.map GFml.av ++ [y.st] := by simp [GFml.av_eq]
            repeat' (first | refine AW.re 17 1 ?_ | refine AW.jt ?_ | refine AW.jf ?_ | refine AW.jj (fun hb => ?_) (fun hb => ?_) | refine AW.go ?_ | fail)
            all_goals try (exfalso; simp only [decide_eq_true_eq, decide_eq_false_iff_not, List.length_map] at *; omega)
            repeat' (first | (refine AW.r 18 ?_ <;> refine AL.d (AOp.index_sl rfl rfl (by omega) hx' (by kernel_rfl) rfl) ?_ <;> (first | refine AL.d AOp.la ?_ | refine AL.d (AOp.lw 0) ?_ | refine AL.d (AOp.lw 1) ?_ | refine AL.d (AOp.lw 2) ?_) <;> refine AL.alloc_z (t := 25) zF (by kernel_rfl) rfl rfl fun r14 => ?_ <;> (first | refine AL.sl 0 ?_ | refine AL.sl 1 ?_ | refine AL.sl 2 ?_) <;> refine AL.nil ?_) | refine AW.jt ?_ | refine AW.jf ?_ | refine AW.jj (fun hb => ?_) (fun hb => ?_) | refine AW.go ?_ | fail)
            repeat' (first | refine AW.jt ?_ | refine AW.jf ?_ | refine AW.jj (fun hb => ?_) (fun hb => ?_) | refine AW.go ?_ | fail)
            refine AW.explore [false, true, true, true, true, true, true] [1, 5, 6, 7, 9] rfl (by kernel_rfl) (by kernel_rfl) (by kernel_rfl) (by kernel_rfl) ?_
            refine AQE.op rfl (AOp.fr 5) rfl rfl ?_
            refine AQE.hole rfl rfl ?_
            refine AQE.ev rfl rfl rfl rfl ?_
            refine AQE.op rfl (AOp.lw 0) rfl rfl ?_
            refine AQE.ev rfl rfl rfl rfl ?_
            refine AQE.hole rfl rfl ?_
            refine AQE.hole rfl rfl ?_
            refine AQE.hole rfl rfl ?_
            refine AQE.op rfl (AOp.fr 5) rfl rfl ?_
            refine AQE.hole rfl rfl ?_
            refine AQE.nil ?_
            repeat' (first
              | refine AX.two (n := 4) 1 5 rfl ?_ ?_
              | refine AX.two (n := 3) 1 6 rfl ?_ ?_
              | refine AX.one (n := 3) 5 rfl ?_
              | refine AX.one (n := 2) 6 rfl ?_
              | refine AX.one (n := 2) 1 rfl ?_
              | refine AX.one (n := 1) 7 rfl ?_
              | refine AX.one (n := 0) 9 rfl ?_
              | (refine AXS.det (i := 1) rfl rfl rfl (AOp.ll 1) ?_; dsimp only [List.set_cons_succ, List.set_cons_zero])
              | (refine AXS.step (i := 5) rfl rfl rfl (AOp.call rfl rfl hc) ?_ (by rintro _ _ ⟨_, ⟨e, _⟩, _⟩; cases e); rintro _ _ ⟨_, ⟨e, g', rfl⟩, rfl⟩; injection e with e; subst e; dsimp only [List.set_cons_succ, List.set_cons_zero])
              | (refine AXS.det (i := 6) rfl rfl rfl (AOp.lit (e := 25) (sz := 6) (by kernel_rfl) rfl rfl rfl (P_one rfl) (by decide)) ?_; dsimp only [List.set_cons_succ, List.set_cons_zero])
              | (refine AXS.at (q := 7) rfl rfl ?_; refine AXO.append (i := 0) (xs := o.map GFml.av) (e := 25) (sz := 6) (bytes := 104) rfl rfl rfl rfl (by kernel_rfl) (by kernel_rfl) (P_map GFml.size_av) (P_one rfl) rfl (by simp only [List.length_map]; simp; omega) (by simp only [List.length_map]; simp; omega) rfl fun b' c' => ?_; dsimp only [List.set_cons_succ, List.set_cons_zero])
              | (refine AXS.at (q := 9) rfl rfl ?_; refine AXO.sl 1 (fun _ => ?_); dsimp only [List.set_cons_succ, List.set_cons_zero]))
            all_goals
              refine AX.done [(0, .ref rn 0), (2, .map m8), (4, .at (.st [.int .i64 k, .int .i64 ar, .str nm, strs vars, strs args, .sl (kids.map GFml.av)])), (6, .ref r6 0), (7, .ref r7 0), (59, .sl (kids.map GFml.av)), (60, .int .i64 (kids.map GFml.av).length), (61, .int .i64 i)] rfl ?_
              refine AW.drop (ah' := [.tail b' ((o ++ [y]).map GFml.av).length c' 6, .box r7 (.st [.int .i64 k, .int .i64 ar, .str nm, strs W, strs args2, .slt ((o ++ [y]).map GFml.av) b' c']), TB t, .box rn (nmAV mt n2), .map mt (kvW bav (bmap tk2)) g', .map m8 (kvW AV.str B) gB, .box r6 zF] ++ X) (by rw [hm]; exact List.Sublist.cons_cons _ <| List.Sublist.cons_cons _ <| List.Sublist.cons_cons _ <| List.Sublist.cons_cons _ <| List.Sublist.cons_cons _ <| List.Sublist.cons_cons _ <| List.sublist_cons_self _ _) ?_
              repeat' (first | (refine AW.r 20 ?_ <;> refine AL.d AOp.ad ?_ <;> refine AL.es 1 ?_ <;> refine AL.nil ?_) | refine AW.jt ?_ | refine AW.jf ?_ | refine AW.jj (fun hb => ?_) (fun hb => ?_) | refine AW.go ?_ | fail)
              refine AW.again_keep (kids.length - (i + 1)) [0, 2, 4, 6, 7, 59, 60, 61] (by omega) ⟨i + 1, o ++ [y], b', c', tk2, n2, g', hlt, rfl, rfl, rfl, ?_⟩
              refine ⟨by rw [he]; simp, by simp; omega, by omega, by omega⟩
          · obtain ⟨he, hol, _, _⟩ := he
            rw [List.drop_eq_nil_of_le (by omega), apL] at he
            simp only [List.append_nil] at he
            rw [he]
            refine AW.weak_box 1 (.st [.int .i64 k, .int .i64 ar, .str nm, strs W, strs args2, .sl (o.map GFml.av)]) rfl (.st (.cons (.refl _) (.cons (.refl _) (.cons (.refl _) (.cons (.refl _) (.cons (.refl _) (.cons .slt .nil))))))) ?_
            repeat' (first | refine AW.re 17 1 ?_ | refine AW.jt ?_ | refine AW.jf ?_ | refine AW.jj (fun hb => ?_) (fun hb => ?_) | refine AW.go ?_ | fail)
            all_goals try (exfalso; simp only [decide_eq_true_eq, decide_eq_false_iff_not, List.length_map] at *; omega)
            repeat' (first | (refine AW.r 21 ?_ <;> (first | refine AL.d AOp.la ?_ | refine AL.d (AOp.lw 0) ?_ | refine AL.d (AOp.lw 1) ?_ | refine AL.d (AOp.lw 2) ?_ | refine AL.d (AOp.lw 3) ?_ | refine AL.d (AOp.lw 4) ?_ | refine AL.d (AOp.lw 5) ?_ | refine AL.d (AOp.lw 6) ?_) <;> (first | refine AL.sl 0 ?_ | refine AL.sl 1 ?_ | refine AL.sl 2 ?_ | refine AL.sl 3 ?_ | refine AL.sl 4 ?_ | refine AL.sl 5 ?_ | refine AL.sl 6 ?_) <;> refine AL.nil ?_) | refine AW.jt ?_ | refine AW.jf ?_ | refine AW.jj (fun hb => ?_) (fun hb => ?_) | refine AW.go ?_ | fail)
            exact AW.retc (.cell 6 rfl rfl (by kernel_rfl) .nil) (.cons _ (.cons _ (.cons_cons _ (.cons_cons _ (.cons_cons _ (.cons _ (.cons _ (List.Sublist.refl _)))))))) ⟨rfl, gg, rfl⟩
end Go.Proofs.YtlpndgodkkndnaaDoor
namespace Go.Proofs.YtlpndgodkkndnaaDoor
open Go.RowKit Go.SX
set_option maxRecDepth 100000
set_option maxHeartbeats 4000000
set_option linter.unusedVariables false
set_option linter.unusedSimpArgs false
theorem permPre {P : Program} {f : FuncId} {args : List AV} {ah ah' : AH} {Φ : AEnd → AH → Prop} (h : Tri P f args ah Φ) (p : ah'.Perm ah) : Tri P f args ah' Φ :=
  ⟨h.1, fun Fr w vs hst hrel => (h.2 Fr w vs (hst.perm p) (RelVs.mv (Mv.same w fun b o hs => hs.elim .inl fun h' => .inr ((reg_perm p).2 h')) _ _ hrel)).mono fun e w' he => he.perm fun b o => reg_perm p.symm⟩
mutual
theorem bdF_len : ∀ f : GFml, shsF f = true → (bdF f).length ≤ 24 * ndF f
  | ⟨k, ar, nm, vars, args, kids⟩, h => by
    rw [shsF, Bool.and_eq_true] at h
    have h1 := shaped_vars h.2
    have h2 := bdL_len kids h.1
    simp only at h1
    rw [bdF, ndF, List.length_append]; omega
theorem bdL_len : ∀ l : List GFml, shsFs l = true → (bdL l).length ≤ 24 * ndFs l
  | [], h => by rw [bdL]; exact Nat.zero_le _
  | x :: l, h => by
    rw [shsFs, Bool.and_eq_true] at h
    have h1 := bdF_len x h.1
    have h2 := bdL_len l h.2
    rw [bdL, ndFs, List.length_append]; omega
end
def none_ : Sb := fun _ => none
def apA (f : GFml) : GFml := (apF f none_ (vrF f []) 0).1
def apaP (f : GFml) : GFml × Int := bif validF f then fitF (apA f) else (noF, 1)
mutual
theorem ap_ok : ∀ (f : GFml) (σ : Sb) (tk : List ByteArray) (n T : Nat), f.Ok → tk.length + (bdF f).length ≤ T → n + (bdF f).length * (T + 1) ≤ 9000000000 → (∀ v w, σ v = some w → strOk w) → (apF f σ tk n).1.Ok
  | ⟨k, ar, nm, vars, args, kids⟩, σ, tk, n, T, ho, hT1, hT2, hσ => by
    obtain ⟨⟨h1, h2, h3, h4, h5⟩, h6, h7⟩ := ho
    rw [bdF, List.length_append] at hT1 hT2
    rw [Nat.add_mul] at hT2
    obtain ⟨k1, k2, k3⟩ := frL_bd T vars.length tk n (by omega)
    have hnew : ∀ x ∈ (frL vars.length tk n).1, strOk x := by
      intro x hx
      obtain ⟨m, hm, rfl⟩ := k3 x hx
      exact wB_ok m (by omega)
    rw [apF]
    refine .mk ⟨h1, h2, h3, ⟨by simp only; rw [frL_len]; exact h4.1, hnew⟩, ⟨by simp only [List.length_map]; exact h5.1, ?_⟩⟩ (by simp only; rw [ap_lenL]; exact h6) ?_
    · intro x hx
      obtain ⟨y, hy, rfl⟩ := List.mem_map.1 hx
      rw [rnS]
      cases hs : σ y with
      | none => exact h5.2 y hy
      | some w => exact hσ y w hs
    · exact ap_okL kids _ _ _ T h7 (by rw [List.length_append, frL_len]; omega) (by omega) (up_ok vars _ σ hσ hnew)
theorem ap_okL : ∀ (l : List GFml) (σ : Sb) (tk : List ByteArray) (n T : Nat), (∀ x ∈ l, x.Ok) → tk.length + (bdL l).length ≤ T → n + (bdL l).length * (T + 1) ≤ 9000000000 → (∀ v w, σ v = some w → strOk w) → ∀ y ∈ (apL l σ tk n).1, y.Ok
  | [], σ, tk, n, T, ho, hT1, hT2, hσ, y, hy => by rw [apL] at hy; cases hy
  | x :: l, σ, tk, n, T, ho, hT1, hT2, hσ, y, hy => by
    rw [bdL, List.length_append] at hT1 hT2
    rw [Nat.add_mul] at hT2
    have hb := ap_bd T x σ tk n (by omega)
    rw [apL] at hy
    rcases List.mem_cons.1 hy with rfl | hy
    · exact ap_ok x σ tk n T (ho x (by simp)) (by omega) (by omega) hσ
    · exact ap_okL l σ _ _ T (fun z hz => ho z (by simp [hz])) (by rw [ap_tk, List.length_append]; omega) (by omega) hσ y hy
theorem up_ok : ∀ (vars r : List ByteArray) (σ : Sb), (∀ v w, σ v = some w → strOk w) → (∀ x ∈ r, strOk x) → ∀ v w, upV vars r σ v = some w → strOk w
  | [], r, σ, h, hr => by rw [upV]; exact h; all_goals intros; simp_all
  | x :: l, [], σ, h, hr => by rw [upV]; exact h; all_goals intros; simp_all
  | x :: l, y :: r, σ, h, hr => by
    rw [upV]
    refine up_ok l r _ (fun v w hv => ?_) (fun z hz => hr z (by simp [hz]))
    simp only [up1] at hv
    split at hv
    · rw [← Option.some.inj hv]; exact hr y (by simp)
    · exact h v w hv
end
theorem perm4 {α : Type} (m b r t : α) : [m, b, r, t].Perm [t, b, m, r] := by
  refine (List.Perm.cons _ (List.perm_append_comm (l₁ := [b, r]) (l₂ := [t]))).trans ?_
  refine (List.Perm.swap t m _).trans (.cons _ (.swap b m _))
theorem n_Apart (t : TypeId) (f : GFml) (ho : f.Ok) (hn : ndF f ≤ 2000) : Tri Tryd.prog 23 [f.st] [TB t] (D (.tup [(apaP f).1.st, .int .i64 (apaP f).2]) [TB t]) := by
  have hv := f_Valid f ho
  unfold apaP
  cases hV : validF f with
  | false =>
    rw [hV] at hv
    obtain ⟨k, ar, nm, vars, args, kids⟩ := f
    refine Tri.enter 16 Tryd.func23 rfl rfl rfl rfl fun Fr w0 => ?_
    repeat' (first | (refine AW.r 0 ?_ <;> (first | refine AL.d (AOp.box_ro (v := .st [.int .i64 k, .int .i64 ar, .str nm, strs vars, strs args, .sl (kids.map GFml.av)]) rfl rfl) ?_ | refine AL.d (AOp.box_ro rfl rfl) ?_) <;> refine AL.alloc_z (t := 25) zF (by kernel_rfl) rfl rfl fun r => ?_ <;> refine AL.es 1 ?_ <;> refine AL.nil ?_) | (refine AW.r 1 ?_ <;> (first | refine AL.d AOp.la ?_ | refine AL.d (AOp.lw 0) ?_) <;> refine AL.d (AOp.call rfl rfl (hv.pure _)) ?_ <;> refine AL.es 1 ?_ <;> refine AL.nil ?_) | (refine AW.r 2 ?_ <;> refine AL.d (AOp.build (pl := [(0, 1), (1, 1), (2, 1), (3, 1), (4, 1), (5, 1)]) (z := .st [.int .i64 0, .int .i64 0, .str ⟨#[]⟩, .sl [], .sl [], .sl []]) (by kernel_rfl) rfl rfl rfl) ?_ <;> refine AL.sl 0 ?_ <;> refine AL.es 1 ?_ <;> refine AL.nil ?_) | refine AW.jt ?_ | refine AW.jf ?_ | refine AW.jj (fun hb => ?_) (fun hb => ?_) | refine AW.go ?_ | fail)
    exact AW.retc (.cell 0 rfl rfl (by kernel_rfl) (.tmp rfl .nil)) (List.sublist_cons_self _ _) ⟨rfl, rfl⟩
  | true =>
    rw [hV] at hv
    have hsh := validF_shs hV
    have l1 := bdF_len f hsh
    have l2 := vrF_len f [] hsh
    rw [List.length_nil, Nat.zero_add] at l2
    have hmul : (bdF f).length * ((vrF f []).length + (bdF f).length + 1) ≤ 48000 * 144001 := Nat.mul_le_mul (by omega) (by omega)
    have hT2 : 0 + (bdF f).length * ((vrF f []).length + (bdF f).length + 1) ≤ 9000000000 := by omega
    have hN := n_newNamer [f] (by simp) (by intro x hx; rw [List.mem_singleton.1 hx]; exact ho)
    have hok : (apA f).Ok := ap_ok f none_ (vrF f []) 0 _ ho (Nat.le_refl _) hT2 (fun v w h => by cases h)
    have hF := n_fit (apA f) hok
    have hA := fun rn mt g r => permPre (Tri.around (n_apart t rn mt _ _ f nilM [] none_ (vrF f []) 0 g (Nat.le_refl _) ho (.inl ⟨rfl, rfl, rfl⟩) (Nat.le_refl _) hT2) [] [.box r zF]) (show List.Perm [Own.map mt (kvW bav (bmap (vrF f []))) g, .box rn (nmAV mt 0), .box r zF, TB t] _ from perm4 _ _ _ _)
    have e1 : [f].map GFml.av = [f.st] := by rw [List.map_cons, List.map_nil, GFml.av_eq]
    have e2 : vrL [f] [] = vrF f [] := by rw [vrL, vrL]
    rw [e1, e2] at hN
    clear l1 l2 hmul hT2 hok
    change ∀ rn mt g r, Tri _ _ _ _ (fun x h => ∃ h1, (x = .ret (apA f).st ∧ ∃ g', h1 = coreH t rn mt _ _ g' ++ []) ∧ h = [] ++ (h1 ++ [Own.box r zF])) at hA
    generalize fitF (apA f) = FF at *
    obtain ⟨G, E⟩ := FF
    generalize apA f = A at *
    obtain ⟨k, ar, nm, vars, args, kids⟩ := f
    refine Tri.enter 16 Tryd.func23 rfl rfl rfl rfl fun Fr w0 => ?_
    repeat' (first | (refine AW.r 0 ?_ <;> (first | refine AL.d (AOp.box_ro (v := .st [.int .i64 k, .int .i64 ar, .str nm, strs vars, strs args, .sl (kids.map GFml.av)]) rfl rfl) ?_ | refine AL.d (AOp.box_ro rfl rfl) ?_) <;> refine AL.alloc_z (t := 25) zF (by kernel_rfl) rfl rfl fun r => ?_ <;> refine AL.es 1 ?_ <;> refine AL.nil ?_) | (refine AW.r 1 ?_ <;> (first | refine AL.d AOp.la ?_ | refine AL.d (AOp.lw 0) ?_) <;> refine AL.d (AOp.call rfl rfl (hv.pure _)) ?_ <;> refine AL.es 1 ?_ <;> refine AL.nil ?_) | refine AW.jt ?_ | refine AW.jf ?_ | refine AW.jj (fun hb => ?_) (fun hb => ?_) | refine AW.go ?_ | fail)
    repeat' (first | refine AW.jt ?_ | refine AW.jf ?_ | refine AW.jj (fun hb => ?_) (fun hb => ?_) | refine AW.go ?_ | fail)
    refine AW.explore [true, true] [2, 4, 5, 6, 7, 8, 9] rfl (by kernel_rfl) (by kernel_rfl) (by kernel_rfl) (by kernel_rfl) ?_
    refine AQE.op rfl (AOp.la) rfl rfl ?_
    refine AQE.op rfl (AOp.lit (e := 25) (sz := 6) (by kernel_rfl) rfl rfl rfl (P_one rfl) (by decide)) rfl rfl ?_
    refine AQE.hole rfl rfl ?_
    refine AQE.op rfl (AOp.la) rfl rfl ?_
    refine AQE.hole rfl rfl ?_
    refine AQE.hole rfl rfl ?_
    refine AQE.hole rfl rfl ?_
    refine AQE.hole rfl rfl ?_
    refine AQE.hole rfl rfl ?_
    refine AQE.hole rfl rfl ?_
    refine AQE.nil ?_
    repeat' (first
      | refine AX.one (n := 6) 2 rfl ?_
      | refine AX.one (n := 5) 4 rfl ?_
      | refine AX.one (n := 4) 5 rfl ?_
      | refine AX.two (n := 3) 6 7 rfl ?_ ?_
      | refine AX.two (n := 2) 7 8 rfl ?_ ?_
      | refine AX.two (n := 2) 6 9 rfl ?_ ?_
      | refine AX.two (n := 1) 8 9 rfl ?_ ?_
      | refine AX.one (n := 3) 6 rfl ?_
      | refine AX.one (n := 3) 7 rfl ?_
      | refine AX.one (n := 3) 8 rfl ?_
      | refine AX.one (n := 3) 9 rfl ?_
      | refine AX.one (n := 2) 6 rfl ?_
      | refine AX.one (n := 2) 7 rfl ?_
      | refine AX.one (n := 2) 8 rfl ?_
      | refine AX.one (n := 2) 9 rfl ?_
      | refine AX.one (n := 1) 6 rfl ?_
      | refine AX.one (n := 1) 7 rfl ?_
      | refine AX.one (n := 1) 8 rfl ?_
      | refine AX.one (n := 1) 9 rfl ?_
      | refine AX.one (n := 0) 6 rfl ?_
      | refine AX.one (n := 0) 7 rfl ?_
      | refine AX.one (n := 0) 8 rfl ?_
      | refine AX.one (n := 0) 9 rfl ?_
      | (refine AXS.step (i := 2) rfl rfl rfl (AOp.call rfl rfl (hN.pureE _)) ?_ (by rintro _ _ ⟨_, ⟨_, _, _, e, _⟩, _⟩; cases e); rintro _ _ ⟨_, ⟨rn, mt, g, e, rfl⟩, rfl⟩; injection e with e; subst e; dsimp only [List.set_cons_succ, List.set_cons_zero])
      | (refine AXS.step (i := 4) rfl rfl rfl (AOp.call rfl rfl (hA _ _ _ _)) ?_ (by rintro _ _ ⟨_, ⟨e, _⟩, _⟩; cases e); rintro _ _ ⟨_, ⟨e, g', rfl⟩, rfl⟩; injection e with e; subst e; dsimp only [List.set_cons_succ, List.set_cons_zero])
      | (refine AXS.det (i := 5) rfl rfl rfl (AOp.call rfl rfl (hF.pure _)) ?_; dsimp only [List.set_cons_succ, List.set_cons_zero])
      | (refine AXS.det (i := 6) rfl rfl rfl (AOp.ev rfl) ?_; dsimp only [List.set_cons_succ, List.set_cons_zero])
      | (refine AXS.det (i := 7) rfl rfl rfl (AOp.ev rfl) ?_; dsimp only [List.set_cons_succ, List.set_cons_zero])
      | (refine AXS.det (i := 9) rfl rfl rfl (AOp.ev rfl) ?_; dsimp only [List.set_cons_succ, List.set_cons_zero])
      | (refine AXS.at (q := 8) rfl rfl ?_; refine AXO.store_leaf 3 rfl rfl rfl rfl rfl (by kernel_rfl) (fun _ => ?_); dsimp only [List.set_cons_succ, List.set_cons_zero]))
    all_goals
      refine AX.done [(2, .ref r 0), (3, .int .i64 E)] rfl ?_
      exact AW.retc (.cell 3 rfl rfl (by kernel_rfl) (.tmp rfl .nil)) (.cons_cons _ (.cons _ (.cons _ (.cons _ .slnil)))) ⟨rfl, rfl⟩
end Go.Proofs.YtlpndgodkkndnaaDoor
namespace Go.Proofs.YtlpndgodkkndnaaDoor
open Go.RowKit Go.SX
set_option maxRecDepth 100000
set_option maxHeartbeats 4000000
set_option linter.unusedVariables false
set_option linter.unusedSimpArgs false
def plN (l : List ByteArray) (s : ByteArray) : Nat → Int
  | 0 => -1
  | i + 1 => if l[i]? = some s then (i : Int) else plN l s i
def plc (l : List ByteArray) (s : ByteArray) : Int := plN l s l.length
theorem ref_place (l : List ByteArray) (s : ByteArray) (hl : l.length ≤ 4611686018427387904) : Tri Tryd.prog 50 [strs l, .str s] [] (D (.int .i64 (plc l s)) []) := by
  refine Tri.enter 20 Tryd.func50 rfl rfl rfl rfl fun Fr w0 => ?_
  repeat' (first | refine AW.re 0 1 ?_ | (refine AW.r 1 ?_ <;> refine AL.es 2 ?_ <;> (first | (refine AL.d (AOp.sub rfl rfl (by simp only [List.length_map]; omega)) ?_) | refine AL.d AOp.sb ?_) <;> refine AL.es 1 ?_ <;> refine AL.nil ?_) | refine AW.jt ?_ | refine AW.jf ?_ | refine AW.jj (fun hb => ?_) (fun hb => ?_) | refine AW.go ?_ | fail)
  refine AW.prune [0, 1, 5] (AW.loop (fun mz af h => ∃ i : Nat, i ≤ l.length ∧ mz = i ∧ af = [(0, strs l), (1, .str s), (5, .int .i64 ((i : Int) - 1))] ∧ h = [] ∧ plc l s = plN l s i) l.length ⟨l.length, Nat.le_refl _, rfl, by simp only [List.length_map]; rfl, rfl, rfl⟩ ?_)
  rintro mz af h ⟨i, hi, rfl, rfl, rfl, he⟩
  refine AW.seq ?_
  cases mz with
  | zero =>
    rw [he]
    repeat' (first | refine AW.re 2 2 ?_ | refine AW.re 6 1 ?_ | refine AW.jt ?_ | refine AW.jf ?_ | refine AW.jj (fun hb => ?_) (fun hb => ?_) | refine AW.go ?_ | fail)
    all_goals try (exfalso; simp only [decide_eq_true_eq, decide_eq_false_iff_not, List.length_map] at *; omega)
    exact AW.retv rfl ⟨rfl, rfl⟩
  | succ j =>
    obtain ⟨x, hx⟩ := get_lt (show j < l.length by omega)
    have hx2 : (l.map AV.str)[(((j + 1 : Nat) : Int) - 1).toNat]? = some (.str x) := by rw [show (((j + 1 : Nat) : Int) - 1).toNat = j by omega]; exact map_get hx
    rw [plN, hx] at he
    repeat' (first | refine AW.re 2 2 ?_ | (refine AW.r 4 ?_ <;> refine AL.es 2 ?_ <;> refine AL.d (AOp.index_sl rfl rfl (by omega) hx2 (by kernel_rfl) rfl) ?_ <;> refine AL.es 3 ?_ <;> refine AL.nil ?_) | refine AW.re 5 2 ?_ | (refine AW.r 3 ?_ <;> refine AL.es 1 ?_ <;> (first | refine AL.d (AOp.sub rfl rfl (by omega)) ?_ | refine AL.d AOp.sb ?_) <;> refine AL.es 1 ?_ <;> refine AL.nil ?_) | refine AW.jt ?_ | refine AW.jf ?_ | refine AW.jj (fun hb => ?_) (fun hb => ?_) | refine AW.go ?_ | fail)
    all_goals try (exfalso; simp only [decide_eq_true_eq, decide_eq_false_iff_not, List.length_map] at *; omega)
    all_goals rw [toList_beq] at hb
    · have h : x = s := by simpa using hb
      rw [if_pos (by rw [h])] at he
      exact AW.retv rfl ⟨by rw [he, show (((j + 1 : Nat) : Int) - 1) = (j : Int) by omega], rfl⟩
    · have h : ¬ x = s := by simpa using hb
      rw [if_neg (by intro e; exact h (Option.some.inj e))] at he
      exact AW.again_keep j [0, 1, 5] (by omega) ⟨j, by omega, rfl, by simp only [show (((j + 1 : Nat) : Int) - 1) = (j : Int) by omega]; rfl, rfl, he⟩
theorem bdL_app : ∀ a b : List GFml, bdL (a ++ b) = bdL a ++ bdL b
  | [], b => by rw [List.nil_append, bdL]; rfl
  | x :: a, b => by rw [List.cons_append, bdL, bdL, bdL_app a b, List.append_assoc]
theorem ref_Bound : ∀ (N : Nat) (f : GFml), ndF f ≤ N → f.Ok → (bdF f).length ≤ 1000000 → Tri Tryd.prog 25 [f.st] [] (D (strs (bdF f)) []) := by
  intro N
  induction N using Nat.strongRecOn with
  | _ N ih =>
    intro f hN ho hlen
    have hnd := ndF_eq f
    obtain ⟨⟨_, _, _, q4, q5⟩, q6, q7⟩ := ho
    have l4 := q4.1
    obtain ⟨k, ar, nm, vars, args, kids⟩ := f
    rw [bdF] at hlen ⊢
    rw [List.length_append] at hlen
    simp only at *
    refine Tri.enter 25 Tryd.func25 rfl rfl rfl rfl fun Fr w0 => ?_
    repeat' (first | (refine AW.r 0 ?_ <;> (first | refine AL.d (AOp.box_ro (v := .st [.int .i64 k, .int .i64 ar, .str nm, strs vars, strs args, .sl (kids.map GFml.av)]) rfl rfl) ?_ | refine AL.d (AOp.box_ro rfl rfl) ?_) <;> refine AL.es 1 ?_ <;> refine AL.nil ?_) | refine AW.jt ?_ | refine AW.jf ?_ | refine AW.jj (fun hb => ?_) (fun hb => ?_) | refine AW.go ?_ | fail)
    repeat' (first | (refine AW.r 1 ?_ <;> refine AL.lit_own (e := 9) (sz := 1) (by kernel_rfl) rfl rfl rfl P_nil (by decide) rfl fun b0 => ?_ <;> refine AL.es 2 ?_ <;> refine AL.append (i := 0) (e := 9) (sz := 1) (bytes := 16) rfl rfl rfl rfl (by kernel_rfl) (by kernel_rfl) (by repeat' (first | exact P_nil | refine P_app ?_ ?_ | refine P_take ?_ | refine P_drop ?_ | exact P_map fun _ => rfl | exact P_one rfl | exact P_rep rfl)) (by repeat' (first | exact P_nil | refine P_app ?_ ?_ | refine P_take ?_ | refine P_drop ?_ | exact P_map fun _ => rfl | exact P_one rfl | exact P_rep rfl)) (ok_all (by repeat' (first | exact P_nil | refine P_app ?_ ?_ | refine P_take ?_ | refine P_drop ?_ | exact P_map fun _ => rfl | exact P_one rfl | exact P_rep rfl))) (by (try simp only [List.length_append, List.length_map, List.length_take, List.length_drop, List.length_cons, List.length_nil, List.length_replicate]); omega) (by (try simp only [List.length_append, List.length_map, List.length_take, List.length_drop, List.length_cons, List.length_nil, List.length_replicate]); omega) rfl fun b' c' => ?_ <;> refine AL.es 1 ?_ <;> refine AL.nil ?_) | refine AW.re 2 1 ?_ | refine AW.jt ?_ | refine AW.jf ?_ | refine AW.jj (fun hb => ?_) (fun hb => ?_) | refine AW.go ?_ | fail)
    refine AW.prune [1, 3, 4] (AW.loop (fun mz af h => ∃ (i : Nat) (o : List ByteArray) (tt : Option Nat) (cc : Nat), i ≤ kids.length ∧ mz = kids.length - i ∧ af = [(1, .at (.st [.int .i64 k, .int .i64 ar, .str nm, strs vars, strs args, .sl (kids.map GFml.av)])), (3, .slt (o.map AV.str) tt cc), (4, .int .i64 i)] ∧ h = [.tail tt (o.map AV.str).length cc 1] ∧ o = vars ++ bdL (kids.take i)) kids.length ⟨0, vars, b', c', Nat.zero_le _, rfl, rfl, rfl, by simp [bdL]⟩ ?_)
    rintro mz af h ⟨i, o, tt, cc, hi, rfl, rfl, rfl, he⟩
    refine AW.seq ?_
    by_cases hlt : i < kids.length
    · obtain ⟨x, hx⟩ := get_lt hlt
      have hx' : (kids.map GFml.av)[((i : Nat) : Int).toNat]? = some (x.st) := GFml.get hx
      have hxm := List.mem_of_getElem? hx
      have hnx := ndFs_mem hxm
      have htk : bdL (kids.take (i + 1)) = bdL (kids.take i) ++ bdF x := by rw [List.take_add_one, hx, bdL_app]; simp [bdL]
      have hle : (bdL kids).length = (bdL (kids.take (i + 1))).length + (bdL (kids.drop (i + 1))).length := by rw [← List.length_append, ← bdL_app, List.take_append_drop]
      rw [htk, List.length_append] at hle
      have hc := ih (ndF x) (by omega) x (Nat.le_refl _) (q7 x hxm) (by omega)
      have hol : o.length + (bdF x).length ≤ 1000000 := by rw [he, List.length_append]; omega
      generalize bdF x = bx at *
      repeat' (first | refine AW.re 3 5 ?_ | refine AW.jt ?_ | refine AW.jf ?_ | refine AW.jj (fun hb => ?_) (fun hb => ?_) | refine AW.go ?_ | fail)
      all_goals try (exfalso; simp only [decide_eq_true_eq, decide_eq_false_iff_not, List.length_map] at *; omega)
      repeat' (first | (refine AW.r 5 ?_ <;> refine AL.es 4 ?_ <;> refine AL.d (AOp.index_sl rfl rfl (by omega) hx' (by kernel_rfl) rfl) ?_ <;> refine AL.es 1 ?_ <;> refine AL.d (AOp.call rfl rfl (hc.pure _)) ?_ <;> refine AL.append (i := 0) (e := 9) (sz := 1) (bytes := 16) rfl rfl rfl rfl (by kernel_rfl) (by kernel_rfl) (by repeat' (first | exact P_nil | refine P_app ?_ ?_ | refine P_take ?_ | refine P_drop ?_ | exact P_map fun _ => rfl | exact P_one rfl | exact P_rep rfl)) (by repeat' (first | exact P_nil | refine P_app ?_ ?_ | refine P_take ?_ | refine P_drop ?_ | exact P_map fun _ => rfl | exact P_one rfl | exact P_rep rfl)) (ok_all (by repeat' (first | exact P_nil | refine P_app ?_ ?_ | refine P_take ?_ | refine P_drop ?_ | exact P_map fun _ => rfl | exact P_one rfl | exact P_rep rfl))) (by (try simp only [List.length_append, List.length_map, List.length_take, List.length_drop, List.length_cons, List.length_nil, List.length_replicate]); omega) (by (try simp only [List.length_append, List.length_map, List.length_take, List.length_drop, List.length_cons, List.length_nil, List.length_replicate]); omega) rfl fun b' c' => ?_ <;> refine AL.es 1 ?_ <;> refine AL.nil ?_) | (refine AW.r 4 ?_ <;> refine AL.es 1 ?_ <;> refine AL.d AOp.ad ?_ <;> refine AL.es 1 ?_ <;> refine AL.nil ?_) | refine AW.jt ?_ | refine AW.jf ?_ | refine AW.jj (fun hb => ?_) (fun hb => ?_) | refine AW.go ?_ | fail)
      refine AW.frame_eq rfl (show _ = [Own.tail b' ((o ++ bx).map AV.str).length c' 1] from by rw [List.map_append]; rfl) ?_
      have hm : o.map AV.str ++ bx.map AV.str = (o ++ bx).map AV.str := by rw [List.map_append]
      rw [hm]
      refine AW.again_keep (kids.length - (i + 1)) [1, 3, 4] (by omega) ⟨i + 1, o ++ bx, b', c', hlt, rfl, rfl, rfl, ?_⟩
      rw [he, htk, List.append_assoc]
    · have ho2 : o = vars ++ bdL kids := by rw [he, List.take_of_length_le (by omega)]
      subst ho2
      repeat' (first | refine AW.re 3 5 ?_ | refine AW.jt ?_ | refine AW.jf ?_ | refine AW.jj (fun hb => ?_) (fun hb => ?_) | refine AW.go ?_ | fail)
      all_goals try (exfalso; simp only [decide_eq_true_eq, decide_eq_false_iff_not, List.length_map] at *; omega)
      refine AW.as_sl 3 rfl ?_
      repeat' (first | refine AW.re 6 2 ?_ | refine AW.jt ?_ | refine AW.jf ?_ | refine AW.jj (fun hb => ?_) (fun hb => ?_) | refine AW.go ?_ | fail)
      exact AW.ret_drop rfl (List.nil_sublist _) ⟨rfl, rfl⟩
end Go.Proofs.YtlpndgodkkndnaaDoor
namespace Go.Proofs.YtlpndgodkkndnaaDoor
open Go.RowKit Go.SX
set_option maxRecDepth 100000
set_option maxHeartbeats 4000000
set_option linter.unusedVariables false
set_option linter.unusedSimpArgs false
def lessB (s t : ByteArray) : Bool := Op.bytesLess s.toList t.toList
def risP : List ByteArray → ByteArray → List ByteArray
  | [], s => [s]
  | x :: l, s => if lessB x s = true then x :: risP l s else if x = s then x :: l else s :: x :: l
theorem risP_len : ∀ (l : List ByteArray) (s : ByteArray), (risP l s).length ≤ l.length + 1
  | [], s => by simp [risP]
  | x :: l, s => by
    have := risP_len l s
    rw [risP]; split
    · simp; omega
    · split <;> simp
theorem risP_mem : ∀ (l : List ByteArray) (s x : ByteArray), x ∈ risP l s ↔ x = s ∨ x ∈ l
  | [], s, x => by simp [risP]
  | y :: l, s, x => by
    have := risP_mem l s x
    rw [risP]; split
    · simp only [List.mem_cons, this]; constructor
      · rintro (h | h | h) <;> simp [h]
      · rintro (h | h | h) <;> simp [h]
    · split
      · rename_i h; subst h; simp
      · simp
theorem str_sz (l : List ByteArray) : ∀ x ∈ l.map AV.str, x.size = 1 := all_map fun _ => rfl
theorem ref_sorted (l : List ByteArray) (s : ByteArray) (hl : l.length ≤ 1000000) : Tri Tryd.prog 51 [strs l, .str s] [] (D (strs (risP l s)) []) := by
  refine Tri.enter 45 Tryd.func51 rfl rfl rfl rfl fun Fr w0 => ?_
  repeat' (first | refine AW.re 0 1 ?_ | refine AW.re 1 1 ?_ | refine AW.jt ?_ | refine AW.jf ?_ | refine AW.jj (fun hb => ?_) (fun hb => ?_) | refine AW.go ?_ | fail)
  refine AW.prune [0, 1, 5] (AW.loop (fun mz af h => ∃ (i : Nat), i ≤ l.length ∧ mz = l.length - i ∧ af = [(0, strs l), (1, .str s), (5, .int .i64 i)] ∧ h = [] ∧ risP l s = l.take i ++ risP (l.drop i) s) l.length ⟨0, Nat.zero_le _, rfl, rfl, rfl, rfl⟩ ?_)
  rintro mz af h ⟨i, hi, rfl, rfl, rfl, he⟩
  refine AW.seq ?_
  by_cases hlt : i < l.length
  · obtain ⟨x, hx⟩ := get_lt hlt
    have hx' : (l.map AV.str)[((i : Nat) : Int).toNat]? = some (.str x) := map_get hx
    have htk : l.take (i + 1) = l.take i ++ [x] := by rw [List.take_add_one, hx]; rfl
    rw [drop_cons hx, risP] at he
    change risP l s = l.take i ++ if Op.bytesLess x.toList s.toList = true then x :: risP (l.drop (i + 1)) s else if x = s then x :: l.drop (i + 1) else s :: x :: l.drop (i + 1) at he
    cases hlb : Op.bytesLess x.toList s.toList with
    | true =>
      rw [hlb] at he
      repeat' (first | (refine AW.r 2 ?_ <;> refine AL.es 5 ?_ <;> (first | refine AL.es 2 ?_ | (refine AL.gx (fun hb => ?_) (fun hb => ?_) <;> refine AL.es 2 ?_)) <;> (first | (refine AL.gd ?_; refine AL.d (AOp.index_sl rfl rfl (by omega) hx' (by kernel_rfl) rfl) ?_) | refine AL.gs ?_ | refine AL.gu ?_) <;> refine AL.es 4 ?_ <;> refine AL.nil ?_) | (refine AW.r 3 ?_ <;> refine AL.es 1 ?_ <;> refine AL.d AOp.ad ?_ <;> refine AL.es 1 ?_ <;> refine AL.nil ?_) | refine AW.jt ?_ | refine AW.jf ?_ | refine AW.jj (fun hb => ?_) (fun hb => ?_) | refine AW.go ?_ | fail)
      all_goals try (exfalso; simp only [decide_eq_true_eq, decide_eq_false_iff_not, List.length_map] at *; omega)
      all_goals try (rw [hlb] at hb; cases hb; done)
      refine AW.again_keep (l.length - (i + 1)) [0, 1, 5] (by omega) ⟨i + 1, hlt, rfl, rfl, rfl, ?_⟩
      rw [he, if_pos rfl, htk]; simp
    | false =>
      rw [hlb] at he
      repeat' (first | (refine AW.r 2 ?_ <;> refine AL.es 5 ?_ <;> (first | refine AL.es 2 ?_ | (refine AL.gx (fun hb => ?_) (fun hb => ?_) <;> refine AL.es 2 ?_)) <;> (first | (refine AL.gd ?_; refine AL.d (AOp.index_sl rfl rfl (by omega) hx' (by kernel_rfl) rfl) ?_) | refine AL.gs ?_ | refine AL.gu ?_) <;> refine AL.es 4 ?_ <;> refine AL.nil ?_) | (refine AW.r 4 ?_ <;> refine AL.es 5 ?_ <;> (first | refine AL.es 2 ?_ | (refine AL.gx (fun hb => ?_) (fun hb => ?_) <;> refine AL.es 2 ?_)) <;> (first | (refine AL.gd ?_; refine AL.d (AOp.index_sl rfl rfl (by omega) hx' (by kernel_rfl) rfl) ?_) | refine AL.gs ?_ | refine AL.gu ?_) <;> refine AL.es 4 ?_ <;> refine AL.nil ?_) | refine AW.re 5 2 ?_ | refine AW.jt ?_ | refine AW.jf ?_ | refine AW.jj (fun hb => ?_) (fun hb => ?_) | refine AW.go ?_ | fail)
      all_goals try (exfalso; simp only [decide_eq_true_eq, decide_eq_false_iff_not, List.length_map] at *; omega)
      all_goals try (rw [hlb] at hb; cases hb; done)
      · rw [toList_beq, decide_eq_true_eq] at hb
        rw [if_neg (by simp), if_pos hb, ← drop_cons hx, List.take_append_drop] at he
        exact AW.retv rfl ⟨by rw [he], rfl⟩
      · rw [toList_beq, decide_eq_false_iff_not] at hb
        rw [if_neg (by simp), if_neg hb] at he
        repeat' (first | (refine AW.ex 6 [] [0, 4, 7, 11, 12] ?_ <;> refine AQE.hl ?_ <;> refine AQE.e ?_ <;> refine AQE.e ?_ <;> (first | (refine AQE.p rfl (AOp.cut (sz := 1) rfl rfl (by kernel_rfl) (str_sz _) bndIs.none (bndIs.some (n := i) rfl (by omega)) (by omega) (by simp; omega)) ?_) | (refine AQE.p rfl (AOp.cut (sz := 1) rfl rfl (by kernel_rfl) (str_sz _) (bndIs.some (n := i) rfl (by omega)) bndIs.none (by simp; omega) (by omega)) ?_)) <;> refine AQE.hl ?_ <;> refine AQE.e ?_ <;> refine AQE.p rfl (AOp.lit (e := 9) (sz := 1) (by kernel_rfl) rfl rfl rfl (P_one rfl) (by decide)) ?_ <;> refine AQE.hl ?_ <;> refine AQE.e ?_ <;> refine AQE.e ?_ <;> (first | (refine AQE.p rfl (AOp.cut (sz := 1) rfl rfl (by kernel_rfl) (str_sz _) bndIs.none (bndIs.some (n := i) rfl (by omega)) (by omega) (by simp; omega)) ?_) | (refine AQE.p rfl (AOp.cut (sz := 1) rfl rfl (by kernel_rfl) (str_sz _) (bndIs.some (n := i) rfl (by omega)) bndIs.none (by simp; omega) (by omega)) ?_)) <;> refine AQE.hl ?_ <;> refine AQE.hl ?_ <;> refine AQE.nil ?_ <;> refine AX.o (n := 4) 0 ?_ <;> (first | refine AXO.lit_own (e := 9) (sz := 1) (by kernel_rfl) rfl rfl rfl P_nil (by decide) fun b0 => ?_ | refine AXO.d (AOp.lit (e := 9) (sz := 1) (by kernel_rfl) rfl rfl rfl (P_one rfl) (by decide)) ?_) <;> try dsimp only [List.set_cons_succ, List.set_cons_zero, List.getD_cons_succ, List.getD_cons_zero] <;> refine AX.o (n := 3) 4 ?_ <;> refine AXO.append (i := 0) (e := 9) (sz := 1) (bytes := 16) rfl rfl rfl rfl (by kernel_rfl) (by kernel_rfl) (by repeat' (first | exact P_nil | refine P_app ?_ ?_ | refine P_take ?_ | refine P_drop ?_ | exact P_map fun _ => rfl | exact P_one rfl | exact P_rep rfl)) (by repeat' (first | exact P_nil | refine P_app ?_ ?_ | refine P_take ?_ | refine P_drop ?_ | exact P_map fun _ => rfl | exact P_one rfl | exact P_rep rfl)) (ok_all (by repeat' (first | exact P_nil | refine P_app ?_ ?_ | refine P_take ?_ | refine P_drop ?_ | exact P_map fun _ => rfl | exact P_one rfl | exact P_rep rfl))) (by (try simp only [List.length_append, List.length_map, List.length_take, List.length_drop, List.length_cons, List.length_nil, List.length_replicate]); omega) (by (try simp only [List.length_append, List.length_map, List.length_take, List.length_drop, List.length_cons, List.length_nil, List.length_replicate]); omega) rfl fun b' c' => ?_ <;> try dsimp only [List.set_cons_succ, List.set_cons_zero, List.getD_cons_succ, List.getD_cons_zero] <;> refine AX.o (n := 2) 7 ?_ <;> refine AXO.append (i := 0) (e := 9) (sz := 1) (bytes := 16) rfl rfl rfl rfl (by kernel_rfl) (by kernel_rfl) (by repeat' (first | exact P_nil | refine P_app ?_ ?_ | refine P_take ?_ | refine P_drop ?_ | exact P_map fun _ => rfl | exact P_one rfl | exact P_rep rfl)) (by repeat' (first | exact P_nil | refine P_app ?_ ?_ | refine P_take ?_ | refine P_drop ?_ | exact P_map fun _ => rfl | exact P_one rfl | exact P_rep rfl)) (ok_all (by repeat' (first | exact P_nil | refine P_app ?_ ?_ | refine P_take ?_ | refine P_drop ?_ | exact P_map fun _ => rfl | exact P_one rfl | exact P_rep rfl))) (by (try simp only [List.length_append, List.length_map, List.length_take, List.length_drop, List.length_cons, List.length_nil, List.length_replicate]); omega) (by (try simp only [List.length_append, List.length_map, List.length_take, List.length_drop, List.length_cons, List.length_nil, List.length_replicate]); omega) rfl fun b' c' => ?_ <;> try dsimp only [List.set_cons_succ, List.set_cons_zero, List.getD_cons_succ, List.getD_cons_zero] <;> refine AX.o (n := 1) 11 ?_ <;> refine AXO.append (i := 0) (e := 9) (sz := 1) (bytes := 16) rfl rfl rfl rfl (by kernel_rfl) (by kernel_rfl) (by repeat' (first | exact P_nil | refine P_app ?_ ?_ | refine P_take ?_ | refine P_drop ?_ | exact P_map fun _ => rfl | exact P_one rfl | exact P_rep rfl)) (by repeat' (first | exact P_nil | refine P_app ?_ ?_ | refine P_take ?_ | refine P_drop ?_ | exact P_map fun _ => rfl | exact P_one rfl | exact P_rep rfl)) (ok_all (by repeat' (first | exact P_nil | refine P_app ?_ ?_ | refine P_take ?_ | refine P_drop ?_ | exact P_map fun _ => rfl | exact P_one rfl | exact P_rep rfl))) (by (try simp only [List.length_append, List.length_map, List.length_take, List.length_drop, List.length_cons, List.length_nil, List.length_replicate]); omega) (by (try simp only [List.length_append, List.length_map, List.length_take, List.length_drop, List.length_cons, List.length_nil, List.length_replicate]); omega) rfl fun b' c' => ?_ <;> try dsimp only [List.set_cons_succ, List.set_cons_zero, List.getD_cons_succ, List.getD_cons_zero] <;> refine AX.o (n := 0) 12 ?_ <;> refine AXO.e ?_ <;> try dsimp only [List.set_cons_succ, List.set_cons_zero, List.getD_cons_succ, List.getD_cons_zero] <;> refine AX.done_keep [0, 1, 4, 5, 6, 7, 8, 9, 10, 11, 12, 13, 14, 15, 16, 17, 18, 19, 20, 21, 22, 23, 24, 25, 26, 27, 28, 29, 30, 31, 32] ?_) | refine AW.jt ?_ | refine AW.jf ?_ | refine AW.jj (fun hb => ?_) (fun hb => ?_) | refine AW.go ?_ | fail)
        refine AW.as_sl 4 rfl ?_
        refine AW.ret_drop rfl (List.nil_sublist _) ⟨?_, rfl⟩
        rw [he]
        show AEnd.ret (AV.sl _) = AEnd.ret (AV.sl _)
        congr 2
        rw [← drop_cons hx, List.take_of_length_le (show (l.map AV.str).length ≤ (l.map AV.str).length from Nat.le_refl _)]
        simp [List.map_take, List.map_drop]
  · rw [List.drop_eq_nil_of_le (by omega), risP] at he
    repeat' (first | (refine AW.r 2 ?_ <;> refine AL.es 5 ?_ <;> (first | refine AL.es 2 ?_ | (refine AL.gx (fun hb => ?_) (fun hb => ?_) <;> refine AL.es 2 ?_)) <;> (first | (refine AL.gd ?_; (exfalso; simp only [decide_eq_true_eq, decide_eq_false_iff_not, List.length_map, bne_iff_ne, ne_eq, bne_eq_false_iff_eq, beq_iff_eq, beq_eq_false_iff_ne] at *; omega)) | refine AL.gs ?_ | refine AL.gu ?_) <;> refine AL.es 4 ?_ <;> refine AL.nil ?_) | (refine AW.r 4 ?_ <;> refine AL.es 5 ?_ <;> (first | refine AL.es 2 ?_ | (refine AL.gx (fun hb => ?_) (fun hb => ?_) <;> refine AL.es 2 ?_)) <;> (first | (refine AL.gd ?_; (exfalso; simp only [decide_eq_true_eq, decide_eq_false_iff_not, List.length_map, bne_iff_ne, ne_eq, bne_eq_false_iff_eq, beq_iff_eq, beq_eq_false_iff_ne] at *; omega)) | refine AL.gs ?_ | refine AL.gu ?_) <;> refine AL.es 4 ?_ <;> refine AL.nil ?_) | refine AW.jt ?_ | refine AW.jf ?_ | refine AW.jj (fun hb => ?_) (fun hb => ?_) | refine AW.go ?_ | fail)
    all_goals try (exfalso; simp only [decide_eq_true_eq, decide_eq_false_iff_not, List.length_map] at *; omega)
    repeat' (first | (refine AW.ex 6 [] [0, 4, 7, 11, 12] ?_ <;> refine AQE.hl ?_ <;> refine AQE.e ?_ <;> refine AQE.e ?_ <;> (first | (refine AQE.p rfl (AOp.cut (sz := 1) rfl rfl (by kernel_rfl) (str_sz _) bndIs.none (bndIs.some (n := i) rfl (by omega)) (by omega) (by simp; omega)) ?_) | (refine AQE.p rfl (AOp.cut (sz := 1) rfl rfl (by kernel_rfl) (str_sz _) (bndIs.some (n := i) rfl (by omega)) bndIs.none (by simp; omega) (by omega)) ?_)) <;> refine AQE.hl ?_ <;> refine AQE.e ?_ <;> refine AQE.p rfl (AOp.lit (e := 9) (sz := 1) (by kernel_rfl) rfl rfl rfl (P_one rfl) (by decide)) ?_ <;> refine AQE.hl ?_ <;> refine AQE.e ?_ <;> refine AQE.e ?_ <;> (first | (refine AQE.p rfl (AOp.cut (sz := 1) rfl rfl (by kernel_rfl) (str_sz _) bndIs.none (bndIs.some (n := i) rfl (by omega)) (by omega) (by simp; omega)) ?_) | (refine AQE.p rfl (AOp.cut (sz := 1) rfl rfl (by kernel_rfl) (str_sz _) (bndIs.some (n := i) rfl (by omega)) bndIs.none (by simp; omega) (by omega)) ?_)) <;> refine AQE.hl ?_ <;> refine AQE.hl ?_ <;> refine AQE.nil ?_ <;> refine AX.o (n := 4) 0 ?_ <;> (first | refine AXO.lit_own (e := 9) (sz := 1) (by kernel_rfl) rfl rfl rfl P_nil (by decide) fun b0 => ?_ | refine AXO.d (AOp.lit (e := 9) (sz := 1) (by kernel_rfl) rfl rfl rfl (P_one rfl) (by decide)) ?_) <;> try dsimp only [List.set_cons_succ, List.set_cons_zero, List.getD_cons_succ, List.getD_cons_zero] <;> refine AX.o (n := 3) 4 ?_ <;> refine AXO.append (i := 0) (e := 9) (sz := 1) (bytes := 16) rfl rfl rfl rfl (by kernel_rfl) (by kernel_rfl) (by repeat' (first | exact P_nil | refine P_app ?_ ?_ | refine P_take ?_ | refine P_drop ?_ | exact P_map fun _ => rfl | exact P_one rfl | exact P_rep rfl)) (by repeat' (first | exact P_nil | refine P_app ?_ ?_ | refine P_take ?_ | refine P_drop ?_ | exact P_map fun _ => rfl | exact P_one rfl | exact P_rep rfl)) (ok_all (by repeat' (first | exact P_nil | refine P_app ?_ ?_ | refine P_take ?_ | refine P_drop ?_ | exact P_map fun _ => rfl | exact P_one rfl | exact P_rep rfl))) (by (try simp only [List.length_append, List.length_map, List.length_take, List.length_drop, List.length_cons, List.length_nil, List.length_replicate]); omega) (by (try simp only [List.length_append, List.length_map, List.length_take, List.length_drop, List.length_cons, List.length_nil, List.length_replicate]); omega) rfl fun b' c' => ?_ <;> try dsimp only [List.set_cons_succ, List.set_cons_zero, List.getD_cons_succ, List.getD_cons_zero] <;> refine AX.o (n := 2) 7 ?_ <;> refine AXO.append (i := 0) (e := 9) (sz := 1) (bytes := 16) rfl rfl rfl rfl (by kernel_rfl) (by kernel_rfl) (by repeat' (first | exact P_nil | refine P_app ?_ ?_ | refine P_take ?_ | refine P_drop ?_ | exact P_map fun _ => rfl | exact P_one rfl | exact P_rep rfl)) (by repeat' (first | exact P_nil | refine P_app ?_ ?_ | refine P_take ?_ | refine P_drop ?_ | exact P_map fun _ => rfl | exact P_one rfl | exact P_rep rfl)) (ok_all (by repeat' (first | exact P_nil | refine P_app ?_ ?_ | refine P_take ?_ | refine P_drop ?_ | exact P_map fun _ => rfl | exact P_one rfl | exact P_rep rfl))) (by (try simp only [List.length_append, List.length_map, List.length_take, List.length_drop, List.length_cons, List.length_nil, List.length_replicate]); omega) (by (try simp only [List.length_append, List.length_map, List.length_take, List.length_drop, List.length_cons, List.length_nil, List.length_replicate]); omega) rfl fun b' c' => ?_ <;> try dsimp only [List.set_cons_succ, List.set_cons_zero, List.getD_cons_succ, List.getD_cons_zero] <;> refine AX.o (n := 1) 11 ?_ <;> refine AXO.append (i := 0) (e := 9) (sz := 1) (bytes := 16) rfl rfl rfl rfl (by kernel_rfl) (by kernel_rfl) (by repeat' (first | exact P_nil | refine P_app ?_ ?_ | refine P_take ?_ | refine P_drop ?_ | exact P_map fun _ => rfl | exact P_one rfl | exact P_rep rfl)) (by repeat' (first | exact P_nil | refine P_app ?_ ?_ | refine P_take ?_ | refine P_drop ?_ | exact P_map fun _ => rfl | exact P_one rfl | exact P_rep rfl)) (ok_all (by repeat' (first | exact P_nil | refine P_app ?_ ?_ | refine P_take ?_ | refine P_drop ?_ | exact P_map fun _ => rfl | exact P_one rfl | exact P_rep rfl))) (by (try simp only [List.length_append, List.length_map, List.length_take, List.length_drop, List.length_cons, List.length_nil, List.length_replicate]); omega) (by (try simp only [List.length_append, List.length_map, List.length_take, List.length_drop, List.length_cons, List.length_nil, List.length_replicate]); omega) rfl fun b' c' => ?_ <;> try dsimp only [List.set_cons_succ, List.set_cons_zero, List.getD_cons_succ, List.getD_cons_zero] <;> refine AX.o (n := 0) 12 ?_ <;> refine AXO.e ?_ <;> try dsimp only [List.set_cons_succ, List.set_cons_zero, List.getD_cons_succ, List.getD_cons_zero] <;> refine AX.done_keep [0, 1, 4, 5, 6, 7, 8, 9, 10, 11, 12, 13, 14, 15, 16, 17, 18, 19, 20, 21, 22, 23, 24, 25, 26, 27, 28, 29, 30, 31, 32] ?_) | refine AW.jt ?_ | refine AW.jf ?_ | refine AW.jj (fun hb => ?_) (fun hb => ?_) | refine AW.go ?_ | fail)
    refine AW.as_sl 4 rfl ?_
    refine AW.ret_drop rfl (List.nil_sublist _) ⟨?_, rfl⟩
    rw [he]
    show AEnd.ret (AV.sl _) = AEnd.ret (AV.sl _)
    congr 2
    have : i = l.length := by omega
    subst this
    simp [List.take_of_length_le]
mutual
def frF : GFml → List ByteArray
  | ⟨_, _, _, vars, args, kids⟩ => frA args (frLs vars kids [])
def frLs : List ByteArray → List GFml → List ByteArray → List ByteArray
  | _, [], out => out
  | vars, x :: l, out => frLs vars l (frV vars (frF x) out)
def frV : List ByteArray → List ByteArray → List ByteArray → List ByteArray
  | _, [], out => out
  | vars, v :: l, out => frV vars l (bif has vars v then out else risP out v)
def frA : List ByteArray → List ByteArray → List ByteArray
  | [], out => out
  | v :: l, out => frA l (risP out v)
end
mutual
def agF : GFml → List ByteArray
  | ⟨_, _, _, _, args, kids⟩ => args ++ agL kids
def agL : List GFml → List ByteArray
  | [] => []
  | x :: l => agF x ++ agL l
end
theorem frV_len (vars : List ByteArray) : ∀ l out : List ByteArray, (frV vars l out).length ≤ out.length + l.length
  | [], out => by rw [frV]; simp
  | v :: l, out => by
    have h1 := frV_len vars l (bif has vars v then out else risP out v)
    have h2 := risP_len out v
    rw [frV, List.length_cons]
    cases hv : has vars v with
    | true => rw [hv] at h1; simp only [cond_true] at h1 ⊢; omega
    | false => rw [hv] at h1; simp only [cond_false] at h1 ⊢; omega
theorem frA_len : ∀ l out : List ByteArray, (frA l out).length ≤ out.length + l.length
  | [], out => by rw [frA]; simp
  | v :: l, out => by
    have h1 := frA_len l (risP out v)
    have h2 := risP_len out v
    rw [frA, List.length_cons]; omega
mutual
theorem frF_len : ∀ f : GFml, (frF f).length ≤ (agF f).length
  | ⟨k, ar, nm, vars, args, kids⟩ => by
    have h1 := frLs_len vars kids []
    have h2 := frA_len args (frLs vars kids [])
    rw [frF, agF, List.length_append]
    rw [List.length_nil] at h1; omega
theorem frLs_len (vars : List ByteArray) : ∀ (l : List GFml) (out : List ByteArray), (frLs vars l out).length ≤ out.length + (agL l).length
  | [], out => by rw [frLs]; omega
  | x :: l, out => by
    have h0 := frF_len x
    have h1 := frV_len vars (frF x) out
    have h2 := frLs_len vars l (frV vars (frF x) out)
    rw [frLs, agL, List.length_append]; omega
end
theorem frV_mem (vars : List ByteArray) : ∀ (l out : List ByteArray) (x : ByteArray), x ∈ frV vars l out → x ∈ l ∨ x ∈ out
  | [], out, x, h => by rw [frV] at h; exact .inr h
  | v :: l, out, x, h => by
    rw [frV] at h
    rcases frV_mem vars l _ x h with h | h
    · exact .inl (List.mem_cons_of_mem _ h)
    · cases hv : has vars v with
      | true => rw [hv] at h; exact .inr h
      | false =>
        rw [hv, cond_false, risP_mem] at h
        rcases h with h | h
        · exact .inl (by rw [h]; exact List.mem_cons_self ..)
        · exact .inr h
theorem frA_mem : ∀ (l out : List ByteArray) (x : ByteArray), x ∈ frA l out → x ∈ l ∨ x ∈ out
  | [], out, x, h => by rw [frA] at h; exact .inr h
  | v :: l, out, x, h => by
    rw [frA] at h
    rcases frA_mem l _ x h with h | h
    · exact .inl (List.mem_cons_of_mem _ h)
    · rcases (risP_mem _ _ _).1 h with h | h
      · exact .inl (by rw [h]; exact List.mem_cons_self ..)
      · exact .inr h
mutual
theorem frF_mem : ∀ (f : GFml) (x : ByteArray), x ∈ frF f → x ∈ agF f
  | ⟨k, ar, nm, vars, args, kids⟩, x, h => by
    rw [frF] at h
    rw [agF, List.mem_append]
    rcases frA_mem _ _ _ h with h | h
    · exact .inl h
    · rcases frLs_mem vars kids [] x h with h | h
      · exact .inr h
      · cases h
theorem frLs_mem (vars : List ByteArray) : ∀ (l : List GFml) (out : List ByteArray) (x : ByteArray), x ∈ frLs vars l out → x ∈ agL l ∨ x ∈ out
  | [], out, x, h => by rw [frLs] at h; exact .inr h
  | y :: l, out, x, h => by
    rw [frLs] at h
    rw [agL, List.mem_append]
    rcases frLs_mem vars l _ x h with h | h
    · exact .inl (.inr h)
    · rcases frV_mem vars _ _ x h with h | h
      · exact .inl (.inl (frF_mem y x h))
      · exact .inr h
end
theorem agL_app : ∀ a b : List GFml, agL (a ++ b) = agL a ++ agL b
  | [], b => by rw [List.nil_append, agL]; rfl
  | x :: a, b => by rw [List.cons_append, agL, agL, agL_app a b, List.append_assoc]
theorem ref_Free : ∀ (N : Nat) (f : GFml), ndF f ≤ N → f.Ok → (agF f).length ≤ 1000000 → Tri Tryd.prog 27 [f.st] [] (D (strs (frF f)) []) := by
  intro N
  induction N using Nat.strongRecOn with
  | _ N ih =>
    intro f hN ho hlen
    have hnd := ndF_eq f
    obtain ⟨⟨_, _, _, q4, q5⟩, q6, q7⟩ := ho
    have l4 := q4.1
    have l5 := q5.1
    obtain ⟨k, ar, nm, vars, args, kids⟩ := f
    rw [agF, List.length_append] at hlen
    rw [frF]
    simp only at *
    refine Tri.enter 56 Tryd.func27 rfl rfl rfl rfl fun Fr w0 => ?_
    repeat' (first | (refine AW.r 0 ?_ <;> (first | refine AL.d (AOp.box_ro (v := .st [.int .i64 k, .int .i64 ar, .str nm, strs vars, strs args, .sl (kids.map GFml.av)]) rfl rfl) ?_ | refine AL.d (AOp.box_ro rfl rfl) ?_) <;> refine AL.es 1 ?_ <;> refine AL.nil ?_) | refine AW.re 1 1 ?_ | refine AW.re 2 1 ?_ | refine AW.jt ?_ | refine AW.jf ?_ | refine AW.jj (fun hb => ?_) (fun hb => ?_) | refine AW.go ?_ | fail)
    refine AW.prune [1, 3, 4] (AW.loop (fun mz af h => ∃ (i : Nat) (o : List ByteArray), i ≤ kids.length ∧ mz = kids.length - i ∧ af = [(1, .at (.st [.int .i64 k, .int .i64 ar, .str nm, strs vars, strs args, .sl (kids.map GFml.av)])), (3, strs o), (4, .int .i64 i)] ∧ h = [] ∧ (frLs vars kids [] = frLs vars (kids.drop i) o ∧ o.length ≤ (agL (kids.take i)).length)) kids.length ⟨0, [], Nat.zero_le _, rfl, rfl, rfl, ⟨rfl, by simp⟩⟩ ?_)
    rintro mz af h ⟨i, o, hi, rfl, rfl, rfl, he⟩
    refine AW.seq ?_
    by_cases hlt : i < kids.length
    · obtain ⟨he, hol⟩ := he
      obtain ⟨x, hx⟩ := get_lt hlt
      have hx' : (kids.map GFml.av)[((i : Nat) : Int).toNat]? = some (x.st) := GFml.get hx
      have hxm := List.mem_of_getElem? hx
      have hnx := ndFs_mem hxm
      have htk : agL (kids.take (i + 1)) = agL (kids.take i) ++ agF x := by rw [List.take_add_one, hx, agL_app]; simp [agL]
      have hle : (agL kids).length = (agL (kids.take (i + 1))).length + (agL (kids.drop (i + 1))).length := by rw [← List.length_append, ← agL_app, List.take_append_drop]
      rw [htk, List.length_append] at hle
      have hfl := frF_len x
      have hc := ih (ndF x) (by omega) x (Nat.le_refl _) (q7 x hxm) (by omega)
      rw [drop_cons hx, frLs] at he
      generalize frF x = fx at *
      repeat' (first | refine AW.re 3 5 ?_ | refine AW.jt ?_ | refine AW.jf ?_ | refine AW.jj (fun hb => ?_) (fun hb => ?_) | refine AW.go ?_ | fail)
      all_goals try (exfalso; simp only [decide_eq_true_eq, decide_eq_false_iff_not, List.length_map] at *; omega)
      repeat' (first | (refine AW.r 5 ?_ <;> refine AL.es 3 ?_ <;> refine AL.d (AOp.index_sl rfl rfl (by omega) hx' (by kernel_rfl) rfl) ?_ <;> refine AL.es 1 ?_ <;> refine AL.d (AOp.call rfl rfl hc) ?_ <;> refine AL.es 1 ?_ <;> refine AL.nil ?_) | refine AW.re 6 1 ?_ | refine AW.jt ?_ | refine AW.jf ?_ | refine AW.jj (fun hb => ?_) (fun hb => ?_) | refine AW.go ?_ | fail)
      obtain ⟨I0, hI0⟩ : ∃ j : Nat, j = i := ⟨i, rfl⟩
      subst hI0
      have hlt0 := hlt
      have he0 := he
      refine AW.prune [1, 3, 4, 5, 6] (AW.loop (fun mz af h => ∃ (i : Nat) (o2 : List ByteArray), i ≤ fx.length ∧ mz = fx.length - i ∧ af = [(1, .at (.st [.int .i64 k, .int .i64 ar, .str nm, strs vars, strs args, .sl (kids.map GFml.av)])), (3, strs o2), (4, .int .i64 I0), (5, strs fx), (6, .int .i64 i)] ∧ h = [] ∧ (frV vars fx o = frV vars (fx.drop i) o2 ∧ o2.length ≤ o.length + i)) fx.length ⟨0, o, Nat.zero_le _, rfl, rfl, rfl, ⟨rfl, by omega⟩⟩ ?_)
      rintro mz af h ⟨i, o2, hi, rfl, rfl, rfl, he⟩
      refine AW.seq ?_
      by_cases hlt : i < fx.length
      · obtain ⟨he, hol2⟩ := he
        obtain ⟨v, hv⟩ := get_lt hlt
        have hv' : (fx.map AV.str)[((i : Nat) : Int).toNat]? = some (.str v) := map_get hv
        have hM := Among_has vars (by omega) v
        have hS := ref_sorted o2 v (by omega)
        have hsl := risP_len o2 v
        rw [drop_cons hv, frV] at he
        generalize risP o2 v = o3 at *
        cases hh : has vars v with
        | true =>
          rw [hh] at hM he
          repeat' (first | refine AW.re 7 4 ?_ | (refine AW.dq 9 ?_ <;> refine AQ.es 4 ?_ <;> refine AQ.p rfl (AOp.index_sl rfl rfl (by omega) hv' (by kernel_rfl) rfl) ?_ <;> refine AQ.es 1 ?_ <;> refine AQ.p rfl (AOp.call rfl rfl hM) ?_ <;> refine AQ.es 1 ?_ <;> refine AQ.nil ?_) | (refine AW.r 8 ?_ <;> refine AL.es 1 ?_ <;> refine AL.d AOp.ad ?_ <;> refine AL.es 1 ?_ <;> refine AL.nil ?_) | refine AW.jt ?_ | refine AW.jf ?_ | refine AW.jj (fun hb => ?_) (fun hb => ?_) | refine AW.go ?_ | fail)
          all_goals try (exfalso; simp only [decide_eq_true_eq, decide_eq_false_iff_not, List.length_map] at *; omega)
          refine AW.again_keep (fx.length - (i + 1)) [1, 3, 4, 5, 6] (by omega) ⟨i + 1, o2, hlt, rfl, rfl, rfl, ?_⟩
          exact ⟨he, by omega⟩
        | false =>
          rw [hh] at hM he
          repeat' (first | refine AW.re 7 4 ?_ | (refine AW.dq 9 ?_ <;> refine AQ.es 4 ?_ <;> refine AQ.p rfl (AOp.index_sl rfl rfl (by omega) hv' (by kernel_rfl) rfl) ?_ <;> refine AQ.es 1 ?_ <;> (first | refine AQ.p rfl (AOp.call rfl rfl hM) ?_ | refine AQ.p rfl (AOp.call rfl rfl hS) ?_) <;> refine AQ.es 1 ?_ <;> refine AQ.nil ?_) | (refine AW.r 10 ?_ <;> refine AL.es 3 ?_ <;> refine AL.d (AOp.index_sl rfl rfl (by omega) hv' (by kernel_rfl) rfl) ?_ <;> refine AL.es 1 ?_ <;> (first | refine AL.d (AOp.call rfl rfl hM) ?_ | refine AL.d (AOp.call rfl rfl hS) ?_) <;> refine AL.es 1 ?_ <;> refine AL.nil ?_) | (refine AW.r 8 ?_ <;> refine AL.es 1 ?_ <;> refine AL.d AOp.ad ?_ <;> refine AL.es 1 ?_ <;> refine AL.nil ?_) | refine AW.jt ?_ | refine AW.jf ?_ | refine AW.jj (fun hb => ?_) (fun hb => ?_) | refine AW.go ?_ | fail)
          all_goals try (exfalso; simp only [decide_eq_true_eq, decide_eq_false_iff_not, List.length_map] at *; omega)
          refine AW.again_keep (fx.length - (i + 1)) [1, 3, 4, 5, 6] (by omega) ⟨i + 1, o3, hlt, rfl, rfl, rfl, ?_⟩
          exact ⟨he, by omega⟩
      · obtain ⟨he, hol2⟩ := he
        rw [List.drop_eq_nil_of_le (by omega), frV] at he
        rw [he] at he0
        repeat' (first | refine AW.re 7 4 ?_ | refine AW.jt ?_ | refine AW.jf ?_ | refine AW.jj (fun hb => ?_) (fun hb => ?_) | refine AW.go ?_ | fail)
        all_goals try (exfalso; simp only [decide_eq_true_eq, decide_eq_false_iff_not, List.length_map] at *; omega)
        repeat' (first | (refine AW.r 4 ?_ <;> refine AL.es 1 ?_ <;> refine AL.d AOp.ad ?_ <;> refine AL.es 1 ?_ <;> refine AL.nil ?_) | refine AW.jt ?_ | refine AW.jf ?_ | refine AW.jj (fun hb => ?_) (fun hb => ?_) | refine AW.go ?_ | fail)
        exact AW.again_keep (kids.length - (I0 + 1)) [1, 3, 4] (by omega) ⟨I0 + 1, o2, hlt0, rfl, rfl, rfl, he0, by rw [htk, List.length_append]; omega⟩
    · obtain ⟨he, hol⟩ := he
      have hal : (agL (kids.take i)).length ≤ (agL kids).length := by
        have hle : (agL kids).length = (agL (kids.take i)).length + (agL (kids.drop i)).length := by rw [← List.length_append, ← agL_app, List.take_append_drop]
        omega
      rw [List.drop_eq_nil_of_le (by omega), frLs] at he
      rw [he]
      repeat' (first | refine AW.re 3 5 ?_ | refine AW.re 11 1 ?_ | refine AW.jt ?_ | refine AW.jf ?_ | refine AW.jj (fun hb => ?_) (fun hb => ?_) | refine AW.go ?_ | fail)
      all_goals try (exfalso; simp only [decide_eq_true_eq, decide_eq_false_iff_not, List.length_map] at *; omega)
      have hob : o.length ≤ (agL kids).length := by omega
      clear he hol hal hlt hi
      refine AW.prune [1, 3, 7] (AW.loop (fun mz af h => ∃ (i : Nat) (o2 : List ByteArray), i ≤ args.length ∧ mz = args.length - i ∧ af = [(1, .at (.st [.int .i64 k, .int .i64 ar, .str nm, strs vars, strs args, .sl (kids.map GFml.av)])), (3, strs o2), (7, .int .i64 i)] ∧ h = [] ∧ (frA args o = frA (args.drop i) o2 ∧ o2.length ≤ o.length + i)) args.length ⟨0, o, Nat.zero_le _, rfl, rfl, rfl, ⟨rfl, by omega⟩⟩ ?_)
      rintro mz af h ⟨i, o2, hi, rfl, rfl, rfl, he⟩
      refine AW.seq ?_
      by_cases hlt : i < args.length
      · obtain ⟨he, hol2⟩ := he
        obtain ⟨v, hv⟩ := get_lt hlt
        have hv' : (args.map AV.str)[((i : Nat) : Int).toNat]? = some (.str v) := map_get hv
        have hS := ref_sorted o2 v (by omega)
        have hsl := risP_len o2 v
        rw [drop_cons hv, frA] at he
        generalize risP o2 v = o3 at *
        repeat' (first | refine AW.re 12 5 ?_ | (refine AW.r 14 ?_ <;> refine AL.es 4 ?_ <;> refine AL.d (AOp.index_sl rfl rfl (by omega) hv' (by kernel_rfl) rfl) ?_ <;> refine AL.es 1 ?_ <;> refine AL.d (AOp.call rfl rfl hS) ?_ <;> refine AL.es 1 ?_ <;> refine AL.nil ?_) | (refine AW.r 13 ?_ <;> refine AL.es 1 ?_ <;> refine AL.d AOp.ad ?_ <;> refine AL.es 1 ?_ <;> refine AL.nil ?_) | refine AW.jt ?_ | refine AW.jf ?_ | refine AW.jj (fun hb => ?_) (fun hb => ?_) | refine AW.go ?_ | fail)
        all_goals try (exfalso; simp only [decide_eq_true_eq, decide_eq_false_iff_not, List.length_map] at *; omega)
        refine AW.again_keep (args.length - (i + 1)) [1, 3, 7] (by omega) ⟨i + 1, o3, hlt, rfl, rfl, rfl, ?_⟩
        exact ⟨he, by omega⟩
      · obtain ⟨he, hol2⟩ := he
        rw [List.drop_eq_nil_of_le (by omega), frA] at he
        rw [he]
        repeat' (first | refine AW.re 12 5 ?_ | refine AW.re 15 2 ?_ | refine AW.jt ?_ | refine AW.jf ?_ | refine AW.jj (fun hb => ?_) (fun hb => ?_) | refine AW.go ?_ | fail)
        all_goals try (exfalso; simp only [decide_eq_true_eq, decide_eq_false_iff_not, List.length_map] at *; omega)
        exact AW.retv rfl ⟨rfl, rfl⟩
end Go.Proofs.YtlpndgodkkndnaaDoor
namespace Go.Proofs.YtlpndgodkkndnaaDoor
open Go.RowKit Go.SX
set_option maxRecDepth 100000
set_option maxHeartbeats 4000000
set_option linter.unusedVariables false
set_option linter.unusedSimpArgs false
def akA : List ByteArray → List ByteArray → List ByteArray → List ByteArray → Bool
  | x :: l, y :: m, xs, ys => (plc xs x == plc ys y) && (!decide (plc xs x < 0) || decide (x = y)) && akA l m xs ys
  | _, _, _, _ => true
mutual
def akF : GFml → GFml → List ByteArray → List ByteArray → Bool
  | ⟨k, ar, nm, vars, args, kids⟩, g, xs, ys => (k == g.Kind && decide (nm = g.Name) && ar == g.Arity && ((vars.length : Int) == g.Vars.length) && ((args.length : Int) == g.Args.length) && ((kids.length : Int) == g.Kids.length))
      && (akA args g.Args xs ys && akL kids g.Kids (xs ++ vars) (ys ++ g.Vars))
def akL : List GFml → List GFml → List ByteArray → List ByteArray → Bool
  | x :: l, y :: m, xs, ys => akF x y xs ys && akL l m xs ys
  | _, _, _, _ => true
end
theorem akA_nil (m xs ys : List ByteArray) : akA [] m xs ys = true := by cases m <;> simp [akA]
theorem akL_nil (m : List GFml) (xs ys : List ByteArray) : akL [] m xs ys = true := by cases m <;> simp [akL]
theorem bdL_mem {l : List GFml} {x : GFml} (h : x ∈ l) : (bdF x).length ≤ (bdL l).length := by
  induction l with
  | nil => cases h
  | cons y l ih =>
    rw [bdL, List.length_append]
    rcases List.mem_cons.1 h with rfl | h
    · omega
    · have := ih h; omega
theorem ref_Alike : ∀ (N : Nat) (f g : GFml) (xs ys : List ByteArray), ndF f ≤ N → f.Ok → g.Ok → xs.length + (bdF f).length ≤ 1000000 → ys.length + (bdF g).length ≤ 1000000 →
    Tri Tryd.prog 24 [f.st, g.st, strs xs, strs ys] [] (D (.bool (akF f g xs ys)) []) := by
  intro N
  induction N using Nat.strongRecOn with
  | _ N ih =>
    intro f g xs ys hN hf hg hbx hby
    have hnd := ndF_eq f
    obtain ⟨⟨_, _, _, a4, a5⟩, q6, q7⟩ := hf
    obtain ⟨⟨_, _, _, b4, b5⟩, r6, r7⟩ := hg
    have l1 := a4.1
    have l2 := a5.1
    have l3 := b4.1
    have l4 := b5.1
    obtain ⟨k, ar, nm, vars, args, kids⟩ := f
    obtain ⟨k', ar', nm', vars', args', kids'⟩ := g
    rw [akF]
    rw [bdF, List.length_append] at hbx hby
    simp only at *
    refine Tri.enter 133 Tryd.func24 rfl rfl rfl rfl fun Fr w0 => ?_
    repeat' (first | (refine AW.r 0 ?_ <;> (first | refine AL.d (AOp.box_ro (v := .st [.int .i64 k, .int .i64 ar, .str nm, strs vars, strs args, .sl (kids.map GFml.av)]) rfl rfl) ?_ | refine AL.d (AOp.box_ro (v := .st [.int .i64 k', .int .i64 ar', .str nm', strs vars', strs args', .sl (kids'.map GFml.av)]) rfl rfl) ?_ | refine AL.d (AOp.box_ro rfl rfl) ?_) <;> (first | refine AL.d (AOp.box_ro (v := .st [.int .i64 k, .int .i64 ar, .str nm, strs vars, strs args, .sl (kids.map GFml.av)]) rfl rfl) ?_ | refine AL.d (AOp.box_ro (v := .st [.int .i64 k', .int .i64 ar', .str nm', strs vars', strs args', .sl (kids'.map GFml.av)]) rfl rfl) ?_ | refine AL.d (AOp.box_ro rfl rfl) ?_) <;> refine AL.es 1 ?_ <;> refine AL.nil ?_) | refine AW.jt ?_ | refine AW.jf ?_ | refine AW.jj (fun hb => ?_) (fun hb => ?_) | refine AW.go ?_ | fail)
    refine AW.cut (fun af ah => ∃ v : Bool, af = [(2, strs xs), (3, strs ys), (4, .at (.st [.int .i64 k, .int .i64 ar, .str nm, strs vars, strs args, .sl (kids.map GFml.av)])), (5, .at (.st [.int .i64 k', .int .i64 ar', .str nm', strs vars', strs args', .sl (kids'.map GFml.av)])), (58, .bool v)] ∧ ah = [] ∧ v = !(k == k' && decide (nm = nm') && ar == ar' && ((vars.length : Int) == vars'.length) && ((args.length : Int) == args'.length) && ((kids.length : Int) == kids'.length))) ?_ ?_
    · repeat' (first | (refine AW.r 1 ?_ <;> refine AL.es 6 ?_ <;> (first | refine AL.es 7 ?_ | (refine AL.gx (fun hb => ?_) (fun hb => ?_) <;> refine AL.es 7 ?_)) <;> (first | refine AL.es 7 ?_ | (refine AL.gx (fun hb => ?_) (fun hb => ?_) <;> refine AL.es 7 ?_)) <;> (first | refine AL.es 9 ?_ | (refine AL.gx (fun hb => ?_) (fun hb => ?_) <;> refine AL.es 9 ?_)) <;> (first | refine AL.es 9 ?_ | (refine AL.gx (fun hb => ?_) (fun hb => ?_) <;> refine AL.es 9 ?_)) <;> (first | refine AL.es 8 ?_ | (refine AL.gx (fun hb => ?_) (fun hb => ?_) <;> refine AL.es 8 ?_)) <;> refine AL.nil ?_) | refine AW.jt ?_ | refine AW.jf ?_ | refine AW.jj (fun hb => ?_) (fun hb => ?_) | refine AW.go ?_ | fail)
      all_goals refine AW.meet [2, 3, 4, 5, 58] ⟨_, rfl, rfl, ?_⟩
      all_goals clear ih
      all_goals simp only [List.length_map, toList_beq, bne, Bool.not_eq_true', Bool.not_eq_false'] at *
      all_goals (simp only [*, Bool.true_and, Bool.false_and, Bool.and_false, Bool.and_true, Bool.not_false, Bool.not_true])
    rintro af ah ⟨v, rfl, rfl, hv1⟩
    cases v with
    | true =>
      repeat' (first | refine AW.re 2 1 ?_ | refine AW.jt ?_ | refine AW.jf ?_ | refine AW.jj (fun hb => ?_) (fun hb => ?_) | refine AW.go ?_ | fail)
      have e : (k == k' && decide (nm = nm') && ar == ar' && ((vars.length : Int) == vars'.length) && ((args.length : Int) == args'.length) && ((kids.length : Int) == kids'.length)) = false := by simpa only [Bool.not_eq_true'] using hv1.symm
      exact AW.retv rfl ⟨by rw [e]; rfl, rfl⟩
    | false =>
    have e : (k == k' && decide (nm = nm') && ar == ar' && ((vars.length : Int) == vars'.length) && ((args.length : Int) == args'.length) && ((kids.length : Int) == kids'.length)) = true := by simpa only [Bool.not_eq_false'] using hv1.symm
    rw [e, Bool.true_and]
    have hkl : kids.length = kids'.length := by simp only [Bool.and_eq_true, beq_iff_eq] at e; omega
    have hal : args.length = args'.length := by simp only [Bool.and_eq_true, beq_iff_eq] at e; omega
    clear e hv1
    repeat' (first | refine AW.re 3 1 ?_ | refine AW.jt ?_ | refine AW.jf ?_ | refine AW.jj (fun hb => ?_) (fun hb => ?_) | refine AW.go ?_ | fail)
    refine AW.prune [2, 3, 4, 5, 9] (AW.loop (fun mz af h => ∃ (i : Nat), i ≤ args.length ∧ mz = args.length - i ∧ af = [(2, strs xs), (3, strs ys), (4, .at (.st [.int .i64 k, .int .i64 ar, .str nm, strs vars, strs args, .sl (kids.map GFml.av)])), (5, .at (.st [.int .i64 k', .int .i64 ar', .str nm', strs vars', strs args', .sl (kids'.map GFml.av)])), (9, .int .i64 i)] ∧ h = [] ∧ akA args args' xs ys = akA (args.drop i) (args'.drop i) xs ys) args.length ⟨0, Nat.zero_le _, rfl, rfl, rfl, rfl⟩ ?_)
    rintro mz af h ⟨i, hi, rfl, rfl, rfl, he⟩
    refine AW.seq ?_
    by_cases hlt : i < args.length
    · obtain ⟨x, hx⟩ := get_lt hlt
      obtain ⟨y, hy⟩ := get_lt (show i < args'.length by omega)
      have hx' : (args.map AV.str)[((i : Nat) : Int).toNat]? = some (.str x) := map_get hx
      have hy' : (args'.map AV.str)[((i : Nat) : Int).toNat]? = some (.str y) := map_get hy
      have hp1 := ref_place xs x (by omega)
      have hp2 := ref_place ys y (by omega)
      rw [drop_cons hx, drop_cons hy, akA] at he
      generalize plc xs x = p at *
      generalize plc ys y = q at *
      repeat' (first | refine AW.re 4 5 ?_ | refine AW.jt ?_ | refine AW.jf ?_ | refine AW.jj (fun hb => ?_) (fun hb => ?_) | refine AW.go ?_ | fail)
      all_goals try (exfalso; simp only [decide_eq_true_eq, decide_eq_false_iff_not, List.length_map] at *; omega)
      repeat' (first | (refine AW.dq 6 ?_ <;> refine AQ.es 4 ?_ <;> (first | refine AQ.p rfl (AOp.index_sl rfl rfl (by omega) hx' (by kernel_rfl) rfl) ?_ | refine AQ.p rfl (AOp.index_sl rfl rfl (by omega) hy' (by kernel_rfl) rfl) ?_) <;> refine AQ.es 1 ?_ <;> (first | refine AQ.p rfl (AOp.call rfl rfl hp1) ?_ | refine AQ.p rfl (AOp.call rfl rfl hp2) ?_) <;> refine AQ.es 4 ?_ <;> (first | refine AQ.p rfl (AOp.index_sl rfl rfl (by omega) hx' (by kernel_rfl) rfl) ?_ | refine AQ.p rfl (AOp.index_sl rfl rfl (by omega) hy' (by kernel_rfl) rfl) ?_) <;> refine AQ.es 1 ?_ <;> (first | refine AQ.p rfl (AOp.call rfl rfl hp1) ?_ | refine AQ.p rfl (AOp.call rfl rfl hp2) ?_) <;> refine AQ.es 2 ?_ <;> refine AQ.nil ?_) | refine AW.jt ?_ | refine AW.jf ?_ | refine AW.jj (fun hb => ?_) (fun hb => ?_) | refine AW.go ?_ | fail)
      repeat' (first | (refine AW.dq 7 ?_ <;> refine AQ.es 4 ?_ <;> (first | refine AQ.es 3 ?_ | (refine AQ.x (fun hb => ?_) (fun hb => ?_) <;> refine AQ.es 3 ?_)) <;> (first | refine AQ.es 3 ?_ | (refine AQ.x (fun hb => ?_) (fun hb => ?_) <;> refine AQ.es 3 ?_)) <;> (first | refine AQ.gp rfl (AOp.index_sl rfl rfl (by omega) hx' (by kernel_rfl) rfl) ?_ | refine AQ.gp rfl (AOp.index_sl rfl rfl (by omega) hy' (by kernel_rfl) rfl) ?_ | refine AQ.k ?_) <;> refine AQ.es 4 ?_ <;> (first | refine AQ.gp rfl (AOp.index_sl rfl rfl (by omega) hx' (by kernel_rfl) rfl) ?_ | refine AQ.gp rfl (AOp.index_sl rfl rfl (by omega) hy' (by kernel_rfl) rfl) ?_ | refine AQ.k ?_) <;> refine AQ.es 4 ?_ <;> refine AQ.nil ?_) | refine AW.jt ?_ | refine AW.jf ?_ | refine AW.jj (fun hb => ?_) (fun hb => ?_) | refine AW.go ?_ | fail)
      · have h1 : (p == q) = false := by simpa [bne] using hb
        repeat' (first | refine AW.re 8 1 ?_ | refine AW.jt ?_ | refine AW.jf ?_ | refine AW.jj (fun hb => ?_) (fun hb => ?_) | refine AW.go ?_ | fail)
        exact AW.retv rfl ⟨retB (by rw [he, h1]; rfl), rfl⟩
      · rename_i h1 h2
        have h1' : (p == q) = true := by simpa [bne] using h1
        rw [toList_beq, Bool.not_eq_true'] at hb
        repeat' (first | refine AW.re 8 1 ?_ | refine AW.jt ?_ | refine AW.jf ?_ | refine AW.jj (fun hb => ?_) (fun hb => ?_) | refine AW.go ?_ | fail)
        exact AW.retv rfl ⟨retB (by rw [he, h1', h2, hb]; rfl), rfl⟩
      · rename_i h1 h2
        have h1' : (p == q) = true := by simpa [bne] using h1
        rw [toList_beq, Bool.not_eq_false'] at hb
        repeat' (first | (refine AW.r 5 ?_ <;> refine AL.es 1 ?_ <;> refine AL.d AOp.ad ?_ <;> refine AL.es 1 ?_ <;> refine AL.nil ?_) | refine AW.jt ?_ | refine AW.jf ?_ | refine AW.jj (fun hb => ?_) (fun hb => ?_) | refine AW.go ?_ | fail)
        refine AW.again_keep (args.length - (i + 1)) [2, 3, 4, 5, 9] (by omega) ⟨i + 1, hlt, rfl, rfl, rfl, ?_⟩
        rw [he, h1', h2, hb]; rfl
      · rename_i h1
        have h1' : (p == q) = true := by simpa [bne] using h1
        repeat' (first | (refine AW.r 5 ?_ <;> refine AL.es 1 ?_ <;> refine AL.d AOp.ad ?_ <;> refine AL.es 1 ?_ <;> refine AL.nil ?_) | refine AW.jt ?_ | refine AW.jf ?_ | refine AW.jj (fun hb => ?_) (fun hb => ?_) | refine AW.go ?_ | fail)
        refine AW.again_keep (args.length - (i + 1)) [2, 3, 4, 5, 9] (by omega) ⟨i + 1, hlt, rfl, rfl, rfl, ?_⟩
        rw [he, h1', hb]; rfl
    · rw [List.drop_eq_nil_of_le (by omega), akA_nil] at he
      rw [he, Bool.true_and]
      repeat' (first | refine AW.re 4 5 ?_ | refine AW.jt ?_ | refine AW.jf ?_ | refine AW.jj (fun hb => ?_) (fun hb => ?_) | refine AW.go ?_ | fail)
      all_goals try (exfalso; simp only [decide_eq_true_eq, decide_eq_false_iff_not, List.length_map] at *; omega)
      refine AW.cut (fun af ah => af = [(2, .sl ([] ++ xs.map AV.str ++ vars.map AV.str)), (3, .sl ([] ++ ys.map AV.str ++ vars'.map AV.str)), (4, .at (.st [.int .i64 k, .int .i64 ar, .str nm, strs vars, strs args, .sl (kids.map GFml.av)])), (5, .at (.st [.int .i64 k', .int .i64 ar', .str nm', strs vars', strs args', .sl (kids'.map GFml.av)]))] ∧ ah = []) ?_ ?_
      rotate_left
      · rintro af ah ⟨rfl, rfl⟩
        have hm1 : (AV.sl ([] ++ xs.map AV.str ++ vars.map AV.str)) = strs (xs ++ vars) := by simp [strs]
        have hm2 : (AV.sl ([] ++ ys.map AV.str ++ vars'.map AV.str)) = strs (ys ++ vars') := by simp [strs]
        rw [hm1, hm2]
        repeat' (first | refine AW.re 10 1 ?_ | refine AW.jt ?_ | refine AW.jf ?_ | refine AW.jj (fun hb => ?_) (fun hb => ?_) | refine AW.go ?_ | fail)
        refine AW.prune [2, 3, 4, 5, 12] (AW.loop (fun mz af h => ∃ (i : Nat), i ≤ kids.length ∧ mz = kids.length - i ∧ af = [(2, strs (xs ++ vars)), (3, strs (ys ++ vars')), (4, .at (.st [.int .i64 k, .int .i64 ar, .str nm, strs vars, strs args, .sl (kids.map GFml.av)])), (5, .at (.st [.int .i64 k', .int .i64 ar', .str nm', strs vars', strs args', .sl (kids'.map GFml.av)])), (12, .int .i64 i)] ∧ h = [] ∧ akL kids kids' (xs ++ vars) (ys ++ vars') = akL (kids.drop i) (kids'.drop i) (xs ++ vars) (ys ++ vars')) kids.length ⟨0, Nat.zero_le _, rfl, rfl, rfl, rfl⟩ ?_)
        rintro mz af h ⟨i, hi, rfl, rfl, rfl, he⟩
        refine AW.seq ?_
        by_cases hlt : i < kids.length
        · obtain ⟨x, hx⟩ := get_lt hlt
          obtain ⟨y, hy⟩ := get_lt (show i < kids'.length by omega)
          have hx' : (kids.map GFml.av)[((i : Nat) : Int).toNat]? = some (x.st) := GFml.get hx
          have hy' : (kids'.map GFml.av)[((i : Nat) : Int).toNat]? = some (y.st) := GFml.get hy
          have hxm := List.mem_of_getElem? hx
          have hym := List.mem_of_getElem? hy
          have hnx := ndFs_mem hxm
          have hb1 := bdL_mem hxm
          have hb2 := bdL_mem hym
          have hc := ih (ndF x) (by omega) x y (xs ++ vars) (ys ++ vars') (Nat.le_refl _) (q7 x hxm) (r7 y hym) (by rw [List.length_append]; omega) (by rw [List.length_append]; omega)
          rw [drop_cons hx, drop_cons hy, akL] at he
          repeat' (first | refine AW.re 11 5 ?_ | (refine AW.dq 13 ?_ <;> refine AQ.es 3 ?_ <;> (first | refine AQ.p rfl (AOp.index_sl rfl rfl (by omega) hx' (by kernel_rfl) rfl) ?_ | refine AQ.p rfl (AOp.index_sl rfl rfl (by omega) hy' (by kernel_rfl) rfl) ?_) <;> refine AQ.es 4 ?_ <;> (first | refine AQ.p rfl (AOp.index_sl rfl rfl (by omega) hx' (by kernel_rfl) rfl) ?_ | refine AQ.p rfl (AOp.index_sl rfl rfl (by omega) hy' (by kernel_rfl) rfl) ?_) <;> refine AQ.es 3 ?_ <;> refine AQ.p rfl (AOp.call rfl rfl hc) ?_ <;> refine AQ.es 1 ?_ <;> refine AQ.nil ?_) | refine AW.jt ?_ | refine AW.jf ?_ | refine AW.jj (fun hb => ?_) (fun hb => ?_) | refine AW.go ?_ | fail)
          all_goals try (exfalso; simp only [decide_eq_true_eq, decide_eq_false_iff_not, List.length_map] at *; omega)
          · have h : akF x y (xs ++ vars) (ys ++ vars') = false := by simpa using hb
            repeat' (first | refine AW.re 14 1 ?_ | refine AW.jt ?_ | refine AW.jf ?_ | refine AW.jj (fun hb => ?_) (fun hb => ?_) | refine AW.go ?_ | fail)
            exact AW.retv rfl ⟨retB (by rw [he, h]; rfl), rfl⟩
          · have h : akF x y (xs ++ vars) (ys ++ vars') = true := by simpa using hb
            repeat' (first | (refine AW.r 12 ?_ <;> refine AL.es 1 ?_ <;> refine AL.d AOp.ad ?_ <;> refine AL.es 1 ?_ <;> refine AL.nil ?_) | refine AW.jt ?_ | refine AW.jf ?_ | refine AW.jj (fun hb => ?_) (fun hb => ?_) | refine AW.go ?_ | fail)
            refine AW.again_keep (kids.length - (i + 1)) [2, 3, 4, 5, 12] (by omega) ⟨i + 1, hlt, rfl, rfl, rfl, ?_⟩
            rw [he, h]; rfl
        · rw [List.drop_eq_nil_of_le (by omega), akL_nil] at he
          rw [he]
          repeat' (first | refine AW.re 11 5 ?_ | refine AW.re 15 1 ?_ | refine AW.jt ?_ | refine AW.jf ?_ | refine AW.jj (fun hb => ?_) (fun hb => ?_) | refine AW.go ?_ | fail)
          all_goals try (exfalso; simp only [decide_eq_true_eq, decide_eq_false_iff_not, List.length_map] at *; omega)
          exact AW.retv rfl ⟨rfl, rfl⟩
      refine AW.explore [] [0, 2, 5, 6, 8, 11, 12, 13] rfl (by kernel_rfl) (by kernel_rfl) (by kernel_rfl) (by kernel_rfl) ?_
      refine AQE.hole rfl rfl ?_
      refine AQE.ev rfl rfl rfl rfl ?_
      refine AQE.hole rfl rfl ?_
      refine AQE.op rfl (AOp.fa) rfl rfl ?_
      refine AQE.op rfl (AOp.la) rfl rfl ?_
      refine AQE.hole rfl rfl ?_
      refine AQE.hole rfl rfl ?_
      refine AQE.ev rfl rfl rfl rfl ?_
      refine AQE.hole rfl rfl ?_
      refine AQE.op rfl (AOp.fa) rfl rfl ?_
      refine AQE.op rfl (AOp.la) rfl rfl ?_
      refine AQE.hole rfl rfl ?_
      refine AQE.hole rfl rfl ?_
      refine AQE.hole rfl rfl ?_
      refine AQE.nil ?_
      repeat' (first
        | refine AX.two (n := 7) 0 6 rfl ?_ ?_
        | refine AX.one (n := 6) 0 rfl ?_
        | refine AX.two (n := 6) 2 6 rfl ?_ ?_
        | refine AX.one (n := 5) 2 rfl ?_
        | refine AX.two (n := 5) 5 6 rfl ?_ ?_
        | refine AX.one (n := 4) 5 rfl ?_
        | refine AX.one (n := 4) 6 rfl ?_
        | refine AX.one (n := 3) 8 rfl ?_
        | refine AX.one (n := 2) 11 rfl ?_
        | refine AX.one (n := 1) 12 rfl ?_
        | refine AX.one (n := 0) 13 rfl ?_
        | (refine AXS.at (q := 0) rfl rfl ?_; refine AXO.lit_own (e := 9) (sz := 1) (by kernel_rfl) rfl rfl rfl P_nil (by decide) fun b0 => ?_; dsimp only [List.set_cons_succ, List.set_cons_zero, List.getD_cons_succ, List.getD_cons_zero])
        | (refine AXS.at (q := 6) rfl rfl ?_; refine AXO.lit_own (e := 9) (sz := 1) (by kernel_rfl) rfl rfl rfl P_nil (by decide) fun b0 => ?_; dsimp only [List.set_cons_succ, List.set_cons_zero, List.getD_cons_succ, List.getD_cons_zero])
        | (refine AXS.at (q := 2) rfl rfl ?_; refine AXO.append (i := 0) (e := 9) (sz := 1) (bytes := 16) rfl rfl rfl rfl (by kernel_rfl) (by kernel_rfl) (by repeat' (first | exact P_nil | refine P_app ?_ ?_ | refine P_take ?_ | refine P_drop ?_ | exact P_map fun _ => rfl | exact P_one rfl | exact P_rep rfl)) (by repeat' (first | exact P_nil | refine P_app ?_ ?_ | refine P_take ?_ | refine P_drop ?_ | exact P_map fun _ => rfl | exact P_one rfl | exact P_rep rfl)) (ok_all (by repeat' (first | exact P_nil | refine P_app ?_ ?_ | refine P_take ?_ | refine P_drop ?_ | exact P_map fun _ => rfl | exact P_one rfl | exact P_rep rfl))) (by (try simp only [List.length_append, List.length_map, List.length_take, List.length_drop, List.length_cons, List.length_nil, List.length_replicate]); omega) (by (try simp only [List.length_append, List.length_map, List.length_take, List.length_drop, List.length_cons, List.length_nil, List.length_replicate]); omega) rfl fun b' c' => ?_; dsimp only [List.set_cons_succ, List.set_cons_zero, List.getD_cons_succ, List.getD_cons_zero])
        | (refine AXS.at (q := 2) rfl rfl ?_; refine AXO.append (i := 1) (e := 9) (sz := 1) (bytes := 16) rfl rfl rfl rfl (by kernel_rfl) (by kernel_rfl) (by repeat' (first | exact P_nil | refine P_app ?_ ?_ | refine P_take ?_ | refine P_drop ?_ | exact P_map fun _ => rfl | exact P_one rfl | exact P_rep rfl)) (by repeat' (first | exact P_nil | refine P_app ?_ ?_ | refine P_take ?_ | refine P_drop ?_ | exact P_map fun _ => rfl | exact P_one rfl | exact P_rep rfl)) (ok_all (by repeat' (first | exact P_nil | refine P_app ?_ ?_ | refine P_take ?_ | refine P_drop ?_ | exact P_map fun _ => rfl | exact P_one rfl | exact P_rep rfl))) (by (try simp only [List.length_append, List.length_map, List.length_take, List.length_drop, List.length_cons, List.length_nil, List.length_replicate]); omega) (by (try simp only [List.length_append, List.length_map, List.length_take, List.length_drop, List.length_cons, List.length_nil, List.length_replicate]); omega) rfl fun b' c' => ?_; dsimp only [List.set_cons_succ, List.set_cons_zero, List.getD_cons_succ, List.getD_cons_zero])
        | (refine AXS.at (q := 5) rfl rfl ?_; refine AXO.append (i := 0) (e := 9) (sz := 1) (bytes := 16) rfl rfl rfl rfl (by kernel_rfl) (by kernel_rfl) (by repeat' (first | exact P_nil | refine P_app ?_ ?_ | refine P_take ?_ | refine P_drop ?_ | exact P_map fun _ => rfl | exact P_one rfl | exact P_rep rfl)) (by repeat' (first | exact P_nil | refine P_app ?_ ?_ | refine P_take ?_ | refine P_drop ?_ | exact P_map fun _ => rfl | exact P_one rfl | exact P_rep rfl)) (ok_all (by repeat' (first | exact P_nil | refine P_app ?_ ?_ | refine P_take ?_ | refine P_drop ?_ | exact P_map fun _ => rfl | exact P_one rfl | exact P_rep rfl))) (by (try simp only [List.length_append, List.length_map, List.length_take, List.length_drop, List.length_cons, List.length_nil, List.length_replicate]); omega) (by (try simp only [List.length_append, List.length_map, List.length_take, List.length_drop, List.length_cons, List.length_nil, List.length_replicate]); omega) rfl fun b' c' => ?_; dsimp only [List.set_cons_succ, List.set_cons_zero, List.getD_cons_succ, List.getD_cons_zero])
        | (refine AXS.at (q := 5) rfl rfl ?_; refine AXO.append (i := 1) (e := 9) (sz := 1) (bytes := 16) rfl rfl rfl rfl (by kernel_rfl) (by kernel_rfl) (by repeat' (first | exact P_nil | refine P_app ?_ ?_ | refine P_take ?_ | refine P_drop ?_ | exact P_map fun _ => rfl | exact P_one rfl | exact P_rep rfl)) (by repeat' (first | exact P_nil | refine P_app ?_ ?_ | refine P_take ?_ | refine P_drop ?_ | exact P_map fun _ => rfl | exact P_one rfl | exact P_rep rfl)) (ok_all (by repeat' (first | exact P_nil | refine P_app ?_ ?_ | refine P_take ?_ | refine P_drop ?_ | exact P_map fun _ => rfl | exact P_one rfl | exact P_rep rfl))) (by (try simp only [List.length_append, List.length_map, List.length_take, List.length_drop, List.length_cons, List.length_nil, List.length_replicate]); omega) (by (try simp only [List.length_append, List.length_map, List.length_take, List.length_drop, List.length_cons, List.length_nil, List.length_replicate]); omega) rfl fun b' c' => ?_; dsimp only [List.set_cons_succ, List.set_cons_zero, List.getD_cons_succ, List.getD_cons_zero])
        | (refine AXS.at (q := 8) rfl rfl ?_; refine AXO.append (i := 0) (e := 9) (sz := 1) (bytes := 16) rfl rfl rfl rfl (by kernel_rfl) (by kernel_rfl) (by repeat' (first | exact P_nil | refine P_app ?_ ?_ | refine P_take ?_ | refine P_drop ?_ | exact P_map fun _ => rfl | exact P_one rfl | exact P_rep rfl)) (by repeat' (first | exact P_nil | refine P_app ?_ ?_ | refine P_take ?_ | refine P_drop ?_ | exact P_map fun _ => rfl | exact P_one rfl | exact P_rep rfl)) (ok_all (by repeat' (first | exact P_nil | refine P_app ?_ ?_ | refine P_take ?_ | refine P_drop ?_ | exact P_map fun _ => rfl | exact P_one rfl | exact P_rep rfl))) (by (try simp only [List.length_append, List.length_map, List.length_take, List.length_drop, List.length_cons, List.length_nil, List.length_replicate]); omega) (by (try simp only [List.length_append, List.length_map, List.length_take, List.length_drop, List.length_cons, List.length_nil, List.length_replicate]); omega) rfl fun b' c' => ?_; dsimp only [List.set_cons_succ, List.set_cons_zero, List.getD_cons_succ, List.getD_cons_zero])
        | (refine AXS.at (q := 8) rfl rfl ?_; refine AXO.append (i := 1) (e := 9) (sz := 1) (bytes := 16) rfl rfl rfl rfl (by kernel_rfl) (by kernel_rfl) (by repeat' (first | exact P_nil | refine P_app ?_ ?_ | refine P_take ?_ | refine P_drop ?_ | exact P_map fun _ => rfl | exact P_one rfl | exact P_rep rfl)) (by repeat' (first | exact P_nil | refine P_app ?_ ?_ | refine P_take ?_ | refine P_drop ?_ | exact P_map fun _ => rfl | exact P_one rfl | exact P_rep rfl)) (ok_all (by repeat' (first | exact P_nil | refine P_app ?_ ?_ | refine P_take ?_ | refine P_drop ?_ | exact P_map fun _ => rfl | exact P_one rfl | exact P_rep rfl))) (by (try simp only [List.length_append, List.length_map, List.length_take, List.length_drop, List.length_cons, List.length_nil, List.length_replicate]); omega) (by (try simp only [List.length_append, List.length_map, List.length_take, List.length_drop, List.length_cons, List.length_nil, List.length_replicate]); omega) rfl fun b' c' => ?_; dsimp only [List.set_cons_succ, List.set_cons_zero, List.getD_cons_succ, List.getD_cons_zero])
        | (refine AXS.at (q := 11) rfl rfl ?_; refine AXO.append (i := 0) (e := 9) (sz := 1) (bytes := 16) rfl rfl rfl rfl (by kernel_rfl) (by kernel_rfl) (by repeat' (first | exact P_nil | refine P_app ?_ ?_ | refine P_take ?_ | refine P_drop ?_ | exact P_map fun _ => rfl | exact P_one rfl | exact P_rep rfl)) (by repeat' (first | exact P_nil | refine P_app ?_ ?_ | refine P_take ?_ | refine P_drop ?_ | exact P_map fun _ => rfl | exact P_one rfl | exact P_rep rfl)) (ok_all (by repeat' (first | exact P_nil | refine P_app ?_ ?_ | refine P_take ?_ | refine P_drop ?_ | exact P_map fun _ => rfl | exact P_one rfl | exact P_rep rfl))) (by (try simp only [List.length_append, List.length_map, List.length_take, List.length_drop, List.length_cons, List.length_nil, List.length_replicate]); omega) (by (try simp only [List.length_append, List.length_map, List.length_take, List.length_drop, List.length_cons, List.length_nil, List.length_replicate]); omega) rfl fun b' c' => ?_; dsimp only [List.set_cons_succ, List.set_cons_zero, List.getD_cons_succ, List.getD_cons_zero])
        | (refine AXS.at (q := 11) rfl rfl ?_; refine AXO.append (i := 1) (e := 9) (sz := 1) (bytes := 16) rfl rfl rfl rfl (by kernel_rfl) (by kernel_rfl) (by repeat' (first | exact P_nil | refine P_app ?_ ?_ | refine P_take ?_ | refine P_drop ?_ | exact P_map fun _ => rfl | exact P_one rfl | exact P_rep rfl)) (by repeat' (first | exact P_nil | refine P_app ?_ ?_ | refine P_take ?_ | refine P_drop ?_ | exact P_map fun _ => rfl | exact P_one rfl | exact P_rep rfl)) (ok_all (by repeat' (first | exact P_nil | refine P_app ?_ ?_ | refine P_take ?_ | refine P_drop ?_ | exact P_map fun _ => rfl | exact P_one rfl | exact P_rep rfl))) (by (try simp only [List.length_append, List.length_map, List.length_take, List.length_drop, List.length_cons, List.length_nil, List.length_replicate]); omega) (by (try simp only [List.length_append, List.length_map, List.length_take, List.length_drop, List.length_cons, List.length_nil, List.length_replicate]); omega) rfl fun b' c' => ?_; dsimp only [List.set_cons_succ, List.set_cons_zero, List.getD_cons_succ, List.getD_cons_zero])
        | (refine AXS.det (i := 12) rfl rfl rfl (AOp.ev rfl) ?_; dsimp only [List.set_cons_succ, List.set_cons_zero, List.getD_cons_succ, List.getD_cons_zero])
        | (refine AXS.det (i := 13) rfl rfl rfl (AOp.ev rfl) ?_; dsimp only [List.set_cons_succ, List.set_cons_zero, List.getD_cons_succ, List.getD_cons_zero]))
      all_goals
        refine AX.done_keep [2, 3, 4, 5] ?_
        refine AW.as_sl 2 rfl ?_
        refine AW.as_sl 3 rfl ?_
        refine AW.drop (List.nil_sublist _) ?_
        exact AW.meet [2, 3, 4, 5] ⟨rfl, rfl⟩
end Go.Proofs.YtlpndgodkkndnaaDoor
namespace Go.Proofs.YtlpndgodkkndnaaDoor
open Go.RowKit Go.SX
set_option maxRecDepth 100000
set_option maxHeartbeats 4000000
set_option linter.unusedVariables false
set_option linter.unusedSimpArgs false
theorem plN_app (l r : List ByteArray) (s : ByteArray) : ∀ i, i ≤ l.length → plN (l ++ r) s i = plN l s i
  | 0, _ => rfl
  | i + 1, h => by rw [plN, plN, plN_app l r s i (by omega), List.getElem?_append_left (by omega)]
theorem plc_snoc (l : List ByteArray) (x s : ByteArray) : plc (l ++ [x]) s = if s = x then (l.length : Int) else plc l s := by
  rw [plc, List.length_append, List.length_singleton, plN, plN_app l [x] s l.length (Nat.le_refl _)]
  have e : (l ++ [x])[l.length]? = some x := by simp
  rw [e]
  by_cases h : s = x
  · rw [if_pos h, if_pos (by rw [h])]
  · rw [if_neg h, if_neg (by intro e; exact h (Option.some.inj e).symm)]; rfl
def JJ (tk0 xs ys : List ByteArray) (σ : Sb) (tk : List ByteArray) : Prop := xs.length = ys.length ∧ ∀ v ∈ tk0, rnS σ v ∈ tk ∧ plc xs v = plc ys (rnS σ v) ∧ (plc xs v < 0 → rnS σ v = v)
theorem JJ.mono {tk0 xs ys tk tk' : List ByteArray} {σ : Sb} (h : JJ tk0 xs ys σ tk) (k : ∀ x ∈ tk, x ∈ tk') : JJ tk0 xs ys σ tk' := ⟨h.1, fun v hv => ⟨k _ (h.2 v hv).1, (h.2 v hv).2⟩⟩
theorem JJ.step {tk0 xs ys tk : List ByteArray} {σ : Sb} {v w : ByteArray} (h : JJ tk0 xs ys σ tk) (hw : w ∉ tk) : JJ tk0 (xs ++ [v]) (ys ++ [w]) (up1 σ v w) (tk ++ [w]) := by
  refine ⟨by simp [h.1], fun u hu => ?_⟩
  by_cases e : u = v
  · have e1 : rnS (up1 σ v w) u = w := by rw [rnS, up1, if_pos e]; rfl
    rw [e1, plc_snoc, plc_snoc, if_pos e, if_pos rfl, h.1]
    exact ⟨by simp, rfl, fun h => by omega⟩
  · have e1 : rnS (up1 σ v w) u = rnS σ u := by rw [rnS, rnS, up1, if_neg e]
    obtain ⟨h1, h2, h3⟩ := h.2 u hu
    have hne : ¬ rnS σ u = w := fun e => hw (e ▸ h1)
    rw [e1, plc_snoc, plc_snoc, if_neg e, if_neg hne]
    exact ⟨by simp [h1], h2, h3⟩
theorem JJ.list {tk0 : List ByteArray} : ∀ (vars ws xs ys tk : List ByteArray) (σ : Sb), vars.length = ws.length → JJ tk0 xs ys σ tk → Fresh tk ws → JJ tk0 (xs ++ vars) (ys ++ ws) (upV vars ws σ) (tk ++ ws)
  | [], [], xs, ys, tk, σ, _, h, _ => by simpa [upV] using h
  | v :: l, w :: r, xs, ys, tk, σ, hl, h, hf => by
    have hw : w ∉ tk := hf.2 w (by simp)
    have hf2 : Fresh (tk ++ [w]) r := by
      have hn := List.nodup_cons.1 hf.1
      refine ⟨hn.2, fun x hx hm => ?_⟩
      rcases List.mem_append.1 hm with hm | hm
      · exact hf.2 x (by simp [hx]) hm
      · rw [List.mem_singleton.1 hm] at hx; exact hn.1 hx
    have := JJ.list l r (xs ++ [v]) (ys ++ [w]) (tk ++ [w]) (up1 σ v w) (by simpa using hl) (h.step hw) hf2
    simpa [upV] using this
  | [], w :: r, _, _, _, _, hl, _, _ => by simp at hl
  | v :: l, [], _, _, _, _, hl, _, _ => by simp at hl
theorem akA_ap {tk0 xs ys tk : List ByteArray} {σ : Sb} (h : JJ tk0 xs ys σ tk) : ∀ l : List ByteArray, (∀ x ∈ l, x ∈ tk0) → akA l (l.map (rnS σ)) xs ys = true
  | [], _ => akA_nil _ _ _
  | x :: l, hl => by
    obtain ⟨_, h2, h3⟩ := h.2 x (hl x (by simp))
    rw [List.map_cons, akA, akA_ap h l (fun y hy => hl y (by simp [hy])), ← h2]
    by_cases e : plc xs x < 0
    · rw [h3 e]; simp
    · simp [e]
mutual
theorem ap_like (tk0 : List ByteArray) : ∀ (f : GFml) (σ : Sb) (tk : List ByteArray) (n : Nat) (xs ys : List ByteArray), (∀ x ∈ agF f, x ∈ tk0) → JJ tk0 xs ys σ tk → akF f (apF f σ tk n).1 xs ys = true
  | ⟨k, ar, nm, vars, args, kids⟩, σ, tk, n, xs, ys, ha, hJ => by
    rw [agF] at ha
    rw [apF, akF]
    simp only
    rw [akA_ap hJ args (fun x hx => ha x (List.mem_append_left _ hx)), ap_likeL tk0 kids _ _ _ _ _ (fun x hx => ha x (List.mem_append_right _ hx)) (JJ.list vars _ xs ys tk σ (frL_len _ _ _).symm hJ (frL_fresh _ _ _)), frL_len, ap_lenL, List.length_map]
    simp
theorem ap_likeL (tk0 : List ByteArray) : ∀ (l : List GFml) (σ : Sb) (tk : List ByteArray) (n : Nat) (xs ys : List ByteArray), (∀ x ∈ agL l, x ∈ tk0) → JJ tk0 xs ys σ tk → akL l (apL l σ tk n).1 xs ys = true
  | [], σ, tk, n, xs, ys, ha, hJ => akL_nil _ _ _
  | x :: l, σ, tk, n, xs, ys, ha, hJ => by
    rw [agL] at ha
    rw [apL]
    simp only
    rw [akL, ap_like tk0 x σ tk n xs ys (fun y hy => ha y (List.mem_append_left _ hy)) hJ, ap_likeL tk0 l σ _ _ xs ys (fun y hy => ha y (List.mem_append_right _ hy)) (hJ.mono fun y hy => by rw [ap_tk]; exact List.mem_append_left _ hy)]
    rfl
end
theorem addV_mem (out : List ByteArray) (v x : ByteArray) : x ∈ addV out v ↔ x = v ∨ x ∈ out := by
  unfold addV
  split
  · rename_i h
    rw [List.any_eq_true] at h
    obtain ⟨y, hy, e⟩ := h
    have e := of_decide_eq_true e
    subst e
    exact ⟨.inr, fun h => h.elim (fun h => h ▸ hy) id⟩
  · rw [List.mem_append, List.mem_singleton]; exact Or.comm
theorem addVs_mem : ∀ (l out : List ByteArray) (x : ByteArray), x ∈ addVs l out ↔ x ∈ l ∨ x ∈ out
  | [], out, x => by simp [addVs]
  | v :: l, out, x => by
    rw [addVs, addVs_mem l, addV_mem, List.mem_cons]
    constructor
    · rintro (h | h | h) <;> simp [h]
    · rintro ((h | h) | h) <;> simp [h]
mutual
theorem vr_ag : ∀ (f : GFml) (out : List ByteArray) (x : ByteArray), x ∈ agF f ∨ x ∈ out → x ∈ vrF f out
  | ⟨k, ar, nm, vars, args, kids⟩, out, x, h => by
    rw [agF, List.mem_append] at h
    rw [vrF]
    refine vr_agL kids _ x ?_
    rw [addVs_mem, addVs_mem]
    rcases h with (h | h) | h
    · exact .inr (.inl h)
    · exact .inl h
    · exact .inr (.inr (.inr h))
theorem vr_agL : ∀ (l : List GFml) (out : List ByteArray) (x : ByteArray), x ∈ agL l ∨ x ∈ out → x ∈ vrL l out
  | [], out, x, h => by
    rw [vrL]
    rcases h with h | h
    · rw [agL] at h; cases h
    · exact h
  | y :: l, out, x, h => by
    rw [agL, List.mem_append] at h
    rw [vrL]
    refine vr_agL l _ x ?_
    rcases h with (h | h) | h
    · exact .inr (vr_ag y out x (.inl h))
    · exact .inl h
    · exact .inr (vr_ag y out x (.inr h))
end
theorem apA_like (f : GFml) : akF f (apA f) [] [] = true :=
  ap_like (vrF f []) f none_ (vrF f []) 0 [] [] (fun x hx => vr_ag f [] x (.inl hx)) ⟨rfl, fun v hv => ⟨hv, rfl, fun _ => rfl⟩⟩
theorem apA_fresh (f : GFml) : Fresh (vrF f []) (bdF (apA f)) := ap_fresh f none_ (vrF f []) 0
theorem namesG_nodup : ∀ (l pre : List ByteArray), l.Nodup → (∀ x ∈ l, x ∉ pre) → namesG false true pre l = true
  | [], _, _, _ => rfl
  | x :: l, pre, hn, hp => by
    have hn2 := List.nodup_cons.1 hn
    have h1 : (pre.any fun y => decide (y = x)) = false := by
      have := has_not.2 (hp x (by simp))
      exact this
    rw [namesG, h1, namesG_nodup l (pre ++ [x]) hn2.2 fun y hy hm => ?_]
    · rfl
    · rcases List.mem_append.1 hm with hm | hm
      · exact hp y (by simp [hy]) hm
      · rw [List.mem_singleton.1 hm] at hy; exact hn2.1 hy
theorem shaped_new {k ar : Int} {nm : ByteArray} {vars args vars' : List ByteArray} {kids kids' : List GFml} (g : ByteArray → ByteArray) (hl : kids'.length = kids.length) (hg : ∀ x, nameB x = true → nameB (g x) = true) (hv : vars'.length = vars.length) (hn : vars'.Nodup) (hvn : ∀ x ∈ vars', nameB x = true)
    (h : shapedP ⟨k, ar, nm, vars, args, kids⟩ = true) : shapedP ⟨k, ar, nm, vars', args.map g, kids'⟩ = true := by
  have h1 : namesG true true [] vars' = true := by
    rw [namesG_split, namesG_all, namesG_nodup vars' [] hn (by simp), Bool.and_true, List.all_eq_true]
    exact hvn
  simp only [shapedP, shp1, shp2, shp3, Bool.and_eq_true, hl, hv, List.length_map, namesG_all, h1] at h ⊢
  refine ⟨h.1, ⟨⟨h.2.1.1.1, ?_⟩, ⟨h.2.1.2.1, trivial⟩⟩, h.2.2⟩
  have := h.2.1.1.2
  rw [List.all_eq_true] at this ⊢
  intro x hx
  obtain ⟨y, hy, rfl⟩ := List.mem_map.1 hx
  exact hg y (this y hy)
theorem up_name : ∀ (vars r : List ByteArray) (σ : Sb), (∀ v w, σ v = some w → nameB w = true) → (∀ x ∈ r, nameB x = true) → ∀ v w, upV vars r σ v = some w → nameB w = true
  | [], r, σ, h, hr => by rw [upV]; exact h; all_goals intros; simp_all
  | x :: l, [], σ, h, hr => by rw [upV]; exact h; all_goals intros; simp_all
  | x :: l, y :: r, σ, h, hr => by
    rw [upV]
    refine up_name l r _ (fun v w hv => ?_) (fun z hz => hr z (by simp [hz]))
    simp only [up1] at hv
    split at hv
    · rw [← Option.some.inj hv]; exact hr y (by simp)
    · exact h v w hv
mutual
theorem ap_sh : ∀ (f : GFml) (σ : Sb) (tk : List ByteArray) (n T : Nat), shsF f = true → tk.length + (bdF f).length ≤ T → n + (bdF f).length * (T + 1) ≤ 9000000000 → (∀ v w, σ v = some w → nameB w = true) → shsF (apF f σ tk n).1 = true
  | ⟨k, ar, nm, vars, args, kids⟩, σ, tk, n, T, h, hT1, hT2, hσ => by
    rw [shsF, Bool.and_eq_true] at h
    rw [bdF, List.length_append] at hT1 hT2
    rw [Nat.add_mul] at hT2
    obtain ⟨k1, k2, k3⟩ := frL_bd T vars.length tk n (by omega)
    have hnew : ∀ x ∈ (frL vars.length tk n).1, nameB x = true := by
      intro x hx
      obtain ⟨m, hm, rfl⟩ := k3 x hx
      exact wB_name m (by omega)
    rw [apF, shsF, Bool.and_eq_true]
    refine ⟨ap_shL kids _ _ _ T h.1 (by rw [List.length_append, frL_len]; omega) (by omega) (up_name vars _ σ hσ hnew), shaped_new (rnS σ) (ap_lenL _ _ _ _) (fun x hx => ?_) (frL_len _ _ _) (frL_fresh _ _ _).1 hnew h.2⟩
    rw [rnS]
    cases hs : σ x with
    | none => exact hx
    | some w => exact hσ x w hs
theorem ap_shL : ∀ (l : List GFml) (σ : Sb) (tk : List ByteArray) (n T : Nat), shsFs l = true → tk.length + (bdL l).length ≤ T → n + (bdL l).length * (T + 1) ≤ 9000000000 → (∀ v w, σ v = some w → nameB w = true) → shsFs (apL l σ tk n).1 = true
  | [], σ, tk, n, T, h, hT1, hT2, hσ => by rw [apL]; rfl
  | x :: l, σ, tk, n, T, h, hT1, hT2, hσ => by
    rw [shsFs, Bool.and_eq_true] at h
    rw [bdL, List.length_append] at hT1 hT2
    rw [Nat.add_mul] at hT2
    have hb := ap_bd T x σ tk n (by omega)
    rw [apL]
    simp only [shsFs]
    rw [ap_sh x σ tk n T h.1 (by omega) (by omega) hσ, ap_shL l σ _ _ T h.2 (by rw [ap_tk, List.length_append]; omega) (by omega) hσ]
    rfl
end
mutual
theorem agF_len : ∀ f : GFml, shsF f = true → (agF f).length ≤ 24 * ndF f
  | ⟨k, ar, nm, vars, args, kids⟩, h => by
    rw [shsF, Bool.and_eq_true] at h
    have h1 := shaped_args h.2
    have h2 := agL_len kids h.1
    simp only at h1
    rw [agF, ndF, List.length_append]; omega
theorem agL_len : ∀ l : List GFml, shsFs l = true → (agL l).length ≤ 24 * ndFs l
  | [], h => by rw [agL]; exact Nat.zero_le _
  | x :: l, h => by
    rw [shsFs, Bool.and_eq_true] at h
    have h1 := agF_len x h.1
    have h2 := agL_len l h.2
    rw [agL, ndFs, List.length_append]; omega
end
theorem apA_facts (f : GFml) (ho : f.Ok) (hn : ndF f ≤ 2000) (hV : validF f = true) : validF (apA f) = true ∧ (apA f).Ok ∧ ndF (apA f) = ndF f ∧ (bdF f).length ≤ 48000 ∧ (bdF (apA f)).length ≤ 48000 ∧ (agF f).length ≤ 48000 ∧ (frF f).length ≤ 48000 ∧ (bdF (apA f)).Nodup ∧ ∀ x ∈ frF f, x ∉ bdF (apA f) := by
  have hsh := validF_shs hV
  have l1 := bdF_len f hsh
  have l2 := vrF_len f [] hsh
  rw [List.length_nil, Nat.zero_add] at l2
  have hmul : (bdF f).length * ((vrF f []).length + (bdF f).length + 1) ≤ 48000 * 144001 := Nat.mul_le_mul (by omega) (by omega)
  have hT2 : 0 + (bdF f).length * ((vrF f []).length + (bdF f).length + 1) ≤ 9000000000 := by omega
  have l3 := agF_len f hsh
  have l4 := frF_len f
  have hb := ap_bd _ f none_ (vrF f []) 0 (Nat.le_refl _)
  have hfr := apA_fresh f
  refine ⟨er_valid (ap_er f _ _ _) hV (ap_sh f none_ _ 0 _ hsh (Nat.le_refl _) hT2 (fun v w h => by cases h)), ap_ok f none_ _ 0 _ ho (Nat.le_refl _) hT2 (fun v w h => by cases h), ?_, by omega, ?_, by omega, by omega, hfr.1, fun x hx hm => ?_⟩
  · rw [← er_nd (apA f), ← er_nd f]; exact congrArg ndF (ap_er f _ _ _)
  · have := hb.2.2; rw [apA]; omega
  · exact hfr.2 x hm (vr_ag f [] x (.inl (frF_mem f x hx)))
end Go.Proofs.YtlpndgodkkndnaaDoor
namespace Go.Proofs.YtlpndgodkkndnaaDoor
open Go.RowKit Go.SX
set_option maxRecDepth 100000
set_option maxHeartbeats 4000000
set_option linter.unusedVariables false
set_option linter.unusedSimpArgs false
theorem law_NormApart (t : TypeId) (f : GFml) (ho : f.Ok) : Tri Tryd.prog 7 [f.st] [TB t] (D (.bool true) [TB t]) := by
  have hF := few_one 1500 (by omega) f ho
  have hAl := alive
  by_cases hfew : wFs 1500 [f] 0 ≤ 1500
  · rw [decide_eq_true hfew] at hF
    have hnd := few_nd hfew (by omega)
    have hN := n_Apart t f ho (by omega)
    have hV := ref_Valid f ho (by omega)
    unfold apaP at hN
    cases hv : validF f with
    | false =>
      rw [hv] at hN hV
      have hS0 := ref_Same _ noF noF (Nat.le_refl _) noF_ok noF_ok
      rw [eqF_refl] at hS0
      clear hnd hfew
      obtain ⟨k, ar, nm, vars, args, kids⟩ := f
      refine Tri.enter 76 Tryd.func7 rfl rfl rfl rfl fun Fr w0 => ?_
      repeat' (first | (refine AW.r 0 ?_ <;> (first | refine AL.d (AOp.box_ro (v := .st [.int .i64 k, .int .i64 ar, .str nm, strs vars, strs args, .sl (kids.map GFml.av)]) rfl rfl) ?_ | refine AL.d (AOp.box_ro rfl rfl) ?_) <;> refine AL.es 1 ?_ <;> refine AL.nil ?_) | (refine AW.r 1 ?_ <;> (first | refine AL.d AOp.la ?_ | refine AL.d (AOp.lw 0) ?_) <;> refine AL.d (AOp.lit (e := 25) (sz := 6) (by kernel_rfl) rfl rfl rfl (P_one rfl) (by decide)) ?_ <;> (first | refine AL.d (AOp.call rfl rfl (hF.pure _)) ?_ | refine AL.d (AOp.call rfl rfl hN) ?_ | refine AL.d (AOp.call rfl rfl (hV.pure _)) ?_ | refine AL.d (AOp.call rfl rfl (hS0.pure _)) ?_ | refine AL.d (AOp.call rfl rfl (hAl.pure _)) ?_) <;> refine AL.es 1 ?_ <;> refine AL.nil ?_) | (refine AW.r 3 ?_ <;> (first | refine AL.d AOp.la ?_ | refine AL.d (AOp.lw 0) ?_) <;> (first | refine AL.d (AOp.call rfl rfl (hF.pure _)) ?_ | refine AL.d (AOp.call rfl rfl hN) ?_ | refine AL.d (AOp.call rfl rfl (hV.pure _)) ?_ | refine AL.d (AOp.call rfl rfl (hS0.pure _)) ?_ | refine AL.d (AOp.call rfl rfl (hAl.pure _)) ?_) <;> refine AL.es 3 ?_ <;> refine AL.alloc_z (t := 25) zF (by kernel_rfl) rfl rfl fun r3 => ?_ <;> refine AL.sl 0 ?_ <;> refine AL.es 1 ?_ <;> refine AL.nil ?_) | (refine AW.r 4 ?_ <;> (first | refine AL.d AOp.la ?_ | refine AL.d (AOp.lw 0) ?_) <;> (first | refine AL.d (AOp.call rfl rfl (hF.pure _)) ?_ | refine AL.d (AOp.call rfl rfl hN) ?_ | refine AL.d (AOp.call rfl rfl (hV.pure _)) ?_ | refine AL.d (AOp.call rfl rfl (hS0.pure _)) ?_ | refine AL.d (AOp.call rfl rfl (hAl.pure _)) ?_) <;> refine AL.es 1 ?_ <;> refine AL.nil ?_) | (refine AW.r 5 ?_ <;> refine AL.es 3 ?_ <;> (first | (refine AL.gd ?_; (first | refine AL.d AOp.la ?_ | refine AL.d (AOp.lw 0) ?_)) | refine AL.gs ?_ | refine AL.gu ?_ | (refine AL.gx (fun hb => ?_) (fun hb => ?_) <;> first | (refine AL.gd ?_; (first | refine AL.d AOp.la ?_ | refine AL.d (AOp.lw 0) ?_)) | refine AL.gs ?_)) <;> (first | (refine AL.gd ?_; refine AL.d (AOp.build (pl := [(0, 1), (1, 1), (2, 1), (3, 1), (4, 1), (5, 1)]) (z := .st [.int .i64 0, .int .i64 0, .str ⟨#[]⟩, .sl [], .sl [], .sl []]) (by kernel_rfl) rfl rfl rfl) ?_) | refine AL.gs ?_ | refine AL.gu ?_) <;> (first | (refine AL.gd ?_; (first | refine AL.d (AOp.call rfl rfl (hF.pure _)) ?_ | refine AL.d (AOp.call rfl rfl hN) ?_ | refine AL.d (AOp.call rfl rfl (hV.pure _)) ?_ | refine AL.d (AOp.call rfl rfl (hS0.pure _)) ?_ | refine AL.d (AOp.call rfl rfl (hAl.pure _)) ?_)) | refine AL.gs ?_ | refine AL.gu ?_) <;> refine AL.es 2 ?_ <;> (first | (refine AL.gd ?_; (first | refine AL.d (AOp.call rfl rfl (hF.pure _)) ?_ | refine AL.d (AOp.call rfl rfl hN) ?_ | refine AL.d (AOp.call rfl rfl (hV.pure _)) ?_ | refine AL.d (AOp.call rfl rfl (hS0.pure _)) ?_ | refine AL.d (AOp.call rfl rfl (hAl.pure _)) ?_)) | refine AL.gs ?_ | refine AL.gu ?_ | (refine AL.gx (fun hb => ?_) (fun hb => ?_) <;> first | (refine AL.gd ?_; (first | refine AL.d (AOp.call rfl rfl (hF.pure _)) ?_ | refine AL.d (AOp.call rfl rfl hN) ?_ | refine AL.d (AOp.call rfl rfl (hV.pure _)) ?_ | refine AL.d (AOp.call rfl rfl (hS0.pure _)) ?_ | refine AL.d (AOp.call rfl rfl (hAl.pure _)) ?_)) | refine AL.gs ?_)) <;> refine AL.es 2 ?_ <;> refine AL.nil ?_) | refine AW.jt ?_ | refine AW.jf ?_ | refine AW.jj (fun hb => ?_) (fun hb => ?_) | refine AW.go ?_ | fail)
      exact AW.ret_drop rfl (List.sublist_cons_self _ _) ⟨rfl, rfl⟩
    | true =>
      rw [hv] at hN hV
      obtain ⟨f1, f2, f3, f4, f5, f6, f7, f8, f9⟩ := apA_facts f ho (by omega) hv
      have hVA := ref_Valid (apA f) f2 (by omega)
      have hLk := ref_Alike _ f (apA f) [] [] (Nat.le_refl _) ho f2 (by simp; omega) (by simp; omega)
      have hBd := ref_Bound _ (apA f) (Nat.le_refl _) f2 (by omega)
      have hFr := ref_Free _ f (Nat.le_refl _) ho (by omega)
      rw [apA_like] at hLk
      rw [f1] at hVA
      rw [cond_true, fitF, f1, cond_true] at hN
      clear hnd hfew f1 f2 f3 f4 f6
      generalize apA f = A at *
      generalize bdF A = names at *
      generalize frF f = free at *
      obtain ⟨k, ar, nm, vars, args, kids⟩ := f
      refine Tri.enter 76 Tryd.func7 rfl rfl rfl rfl fun Fr w0 => ?_
      repeat' (first | (refine AW.r 0 ?_ <;> (first | refine AL.d (AOp.box_ro (v := .st [.int .i64 k, .int .i64 ar, .str nm, strs vars, strs args, .sl (kids.map GFml.av)]) rfl rfl) ?_ | refine AL.d (AOp.box_ro rfl rfl) ?_) <;> refine AL.es 1 ?_ <;> refine AL.nil ?_) | (refine AW.r 1 ?_ <;> (first | refine AL.d AOp.la ?_ | refine AL.d (AOp.lw 0) ?_) <;> refine AL.d (AOp.lit (e := 25) (sz := 6) (by kernel_rfl) rfl rfl rfl (P_one rfl) (by decide)) ?_ <;> (first | refine AL.d (AOp.call rfl rfl (hF.pure _)) ?_ | refine AL.d (AOp.call rfl rfl hN) ?_ | refine AL.d (AOp.call rfl rfl (hV.pure _)) ?_ | refine AL.d (AOp.call rfl rfl (hVA.pure _)) ?_ | refine AL.d (AOp.call rfl rfl (hLk.pure _)) ?_ | refine AL.d (AOp.call rfl rfl (hBd.pure _)) ?_) <;> refine AL.es 1 ?_ <;> refine AL.nil ?_) | (refine AW.r 3 ?_ <;> (first | refine AL.d AOp.la ?_ | refine AL.d (AOp.lw 0) ?_) <;> (first | refine AL.d (AOp.call rfl rfl (hF.pure _)) ?_ | refine AL.d (AOp.call rfl rfl hN) ?_ | refine AL.d (AOp.call rfl rfl (hV.pure _)) ?_ | refine AL.d (AOp.call rfl rfl (hVA.pure _)) ?_ | refine AL.d (AOp.call rfl rfl (hLk.pure _)) ?_ | refine AL.d (AOp.call rfl rfl (hBd.pure _)) ?_) <;> refine AL.es 3 ?_ <;> refine AL.alloc_z (t := 25) zF (by kernel_rfl) rfl rfl fun r3 => ?_ <;> refine AL.sl 0 ?_ <;> refine AL.es 1 ?_ <;> refine AL.nil ?_) | (refine AW.r 4 ?_ <;> (first | refine AL.d AOp.la ?_ | refine AL.d (AOp.lw 0) ?_) <;> (first | refine AL.d (AOp.call rfl rfl (hF.pure _)) ?_ | refine AL.d (AOp.call rfl rfl hN) ?_ | refine AL.d (AOp.call rfl rfl (hV.pure _)) ?_ | refine AL.d (AOp.call rfl rfl (hVA.pure _)) ?_ | refine AL.d (AOp.call rfl rfl (hLk.pure _)) ?_ | refine AL.d (AOp.call rfl rfl (hBd.pure _)) ?_) <;> refine AL.es 1 ?_ <;> refine AL.nil ?_) | (refine AW.r 6 ?_ <;> refine AL.es 3 ?_ <;> (first | (refine AL.gd ?_; (first | refine AL.d AOp.la ?_ | refine AL.d (AOp.lw 0) ?_)) | refine AL.gs ?_ | refine AL.gu ?_ | (refine AL.gx (fun hb => ?_) (fun hb => ?_) <;> first | (refine AL.gd ?_; (first | refine AL.d AOp.la ?_ | refine AL.d (AOp.lw 0) ?_)) | refine AL.gs ?_)) <;> (first | (refine AL.gd ?_; (first | refine AL.d (AOp.call rfl rfl (hF.pure _)) ?_ | refine AL.d (AOp.call rfl rfl hN) ?_ | refine AL.d (AOp.call rfl rfl (hV.pure _)) ?_ | refine AL.d (AOp.call rfl rfl (hVA.pure _)) ?_ | refine AL.d (AOp.call rfl rfl (hLk.pure _)) ?_ | refine AL.d (AOp.call rfl rfl (hBd.pure _)) ?_)) | refine AL.gs ?_ | refine AL.gu ?_) <;> refine AL.es 3 ?_ <;> (first | (refine AL.gd ?_; (first | refine AL.d AOp.la ?_ | refine AL.d (AOp.lw 0) ?_)) | refine AL.gs ?_ | refine AL.gu ?_ | (refine AL.gx (fun hb => ?_) (fun hb => ?_) <;> first | (refine AL.gd ?_; (first | refine AL.d AOp.la ?_ | refine AL.d (AOp.lw 0) ?_)) | refine AL.gs ?_)) <;> (first | (refine AL.gd ?_; (first | refine AL.d AOp.la ?_ | refine AL.d (AOp.lw 0) ?_)) | refine AL.gs ?_ | refine AL.gu ?_) <;> (first | (refine AL.gd ?_; (first | refine AL.d (AOp.call rfl rfl (hF.pure _)) ?_ | refine AL.d (AOp.call rfl rfl hN) ?_ | refine AL.d (AOp.call rfl rfl (hV.pure _)) ?_ | refine AL.d (AOp.call rfl rfl (hVA.pure _)) ?_ | refine AL.d (AOp.call rfl rfl (hLk.pure _)) ?_ | refine AL.d (AOp.call rfl rfl (hBd.pure _)) ?_)) | refine AL.gs ?_ | refine AL.gu ?_) <;> refine AL.es 2 ?_ <;> refine AL.nil ?_) | (refine AW.r 8 ?_ <;> (first | refine AL.d AOp.la ?_ | refine AL.d (AOp.lw 0) ?_) <;> (first | refine AL.d (AOp.call rfl rfl (hF.pure _)) ?_ | refine AL.d (AOp.call rfl rfl hN) ?_ | refine AL.d (AOp.call rfl rfl (hV.pure _)) ?_ | refine AL.d (AOp.call rfl rfl (hVA.pure _)) ?_ | refine AL.d (AOp.call rfl rfl (hLk.pure _)) ?_ | refine AL.d (AOp.call rfl rfl (hBd.pure _)) ?_) <;> refine AL.es 1 ?_ <;> refine AL.nil ?_) | refine AW.jt ?_ | refine AW.jf ?_ | refine AW.jj (fun hb => ?_) (fun hb => ?_) | refine AW.go ?_ | fail)
      refine AW.drop (ah' := [TB t]) (List.sublist_cons_self _ _) ?_
      repeat' (first | refine AW.re 9 1 ?_ | refine AW.jt ?_ | refine AW.jf ?_ | refine AW.jj (fun hb => ?_) (fun hb => ?_) | refine AW.go ?_ | fail)
      refine AW.prune [1, 5, 6] (AW.loop (fun mz af h => ∃ (i : Nat), i ≤ names.length ∧ mz = names.length - i ∧ af = [(1, .at (.st [.int .i64 k, .int .i64 ar, .str nm, strs vars, strs args, .sl (kids.map GFml.av)])), (5, strs names), (6, .int .i64 i)] ∧ h = [TB t] ∧ True) names.length ⟨0, Nat.zero_le _, rfl, rfl, rfl, trivial⟩ ?_)
      rintro mz af h ⟨i, hi, rfl, rfl, rfl, he⟩
      refine AW.seq ?_
      by_cases hlt : i < names.length
      · obtain ⟨x, hx⟩ := get_lt hlt
        have hx' : (names.map AV.str)[((i : Nat) : Int).toNat]? = some (.str x) := map_get hx
        have hno : has (names.take i) x = false := by
          refine has_not.2 fun hm => ?_
          obtain ⟨j, hj⟩ := List.getElem?_of_mem hm
          have hji : j < i := by
            have := (List.getElem?_eq_some_iff.1 hj).1
            rw [List.length_take] at this; omega
          rw [List.getElem?_take, if_pos hji] at hj
          have h1 := (List.getElem?_eq_some_iff.1 hj)
          have h2 := (List.getElem?_eq_some_iff.1 hx)
          have := nodup_injA f8 j i h1.1 h2.1 (h1.2.trans h2.2.symm)
          omega
        have hc := Among_has (names.take i) (by rw [List.length_take]; omega) x
        rw [hno] at hc
        have hct : strs (names.take i) = .sl (((names.map AV.str).take i).drop 0) := by rw [List.drop_zero, ← List.map_take]; rfl
        rw [hct] at hc
        repeat' (first | refine AW.re 10 4 ?_ | refine AW.jt ?_ | refine AW.jf ?_ | refine AW.jj (fun hb => ?_) (fun hb => ?_) | refine AW.go ?_ | fail)
        all_goals try (exfalso; simp only [decide_eq_true_eq, decide_eq_false_iff_not, List.length_map] at *; omega)
        repeat' (first | (refine AW.dl 12 7 ?_ <;> refine AQ.es 2 ?_ <;> refine AQ.p rfl (AOp.cut (sz := 1) rfl rfl (by kernel_rfl) (all_map fun _ => rfl) bndIs.none (bndIs.some rfl rfl) (by omega) (by simp; omega)) ?_ <;> refine AQ.es 2 ?_ <;> refine AQ.p rfl (AOp.index_sl rfl rfl (by omega) hx' (by kernel_rfl) rfl) ?_ <;> refine AQ.es 1 ?_ <;> refine AQ.nil ?_ <;> refine AL.d (AOp.call rfl rfl (hc.pure _)) ?_ <;> refine AL.nil ?_) | (refine AW.r 11 ?_ <;> refine AL.es 1 ?_ <;> refine AL.d AOp.ad ?_ <;> refine AL.es 1 ?_ <;> refine AL.nil ?_) | refine AW.jt ?_ | refine AW.jf ?_ | refine AW.jj (fun hb => ?_) (fun hb => ?_) | refine AW.go ?_ | fail)
        refine AW.again_keep (names.length - (i + 1)) [1, 5, 6] (by omega) ⟨i + 1, hlt, rfl, rfl, rfl, ?_⟩
        trivial
      · repeat' (first | refine AW.re 10 4 ?_ | (refine AW.r 14 ?_ <;> refine AL.es 1 ?_ <;> refine AL.d (AOp.call rfl rfl (hFr.pure _)) ?_ <;> refine AL.es 1 ?_ <;> refine AL.nil ?_) | refine AW.jt ?_ | refine AW.jf ?_ | refine AW.jj (fun hb => ?_) (fun hb => ?_) | refine AW.go ?_ | fail)
        all_goals try (exfalso; simp only [decide_eq_true_eq, decide_eq_false_iff_not, List.length_map] at *; omega)
        repeat' (first | refine AW.re 15 1 ?_ | refine AW.jt ?_ | refine AW.jf ?_ | refine AW.jj (fun hb => ?_) (fun hb => ?_) | refine AW.go ?_ | fail)
        refine AW.prune [5, 7, 8] (AW.loop (fun mz af h => ∃ (i : Nat), i ≤ free.length ∧ mz = free.length - i ∧ af = [(5, strs names), (7, strs free), (8, .int .i64 i)] ∧ h = [TB t] ∧ True) free.length ⟨0, Nat.zero_le _, rfl, rfl, rfl, trivial⟩ ?_)
        rintro mz af h ⟨i, hi, rfl, rfl, rfl, he⟩
        refine AW.seq ?_
        by_cases hlt : i < free.length
        · obtain ⟨x, hx⟩ := get_lt hlt
          have hx' : (free.map AV.str)[((i : Nat) : Int).toNat]? = some (.str x) := map_get hx
          have hc := Among_has names (by omega) x
          rw [has_not.2 (f9 x (List.mem_of_getElem? hx))] at hc
          repeat' (first | refine AW.re 16 4 ?_ | refine AW.jt ?_ | refine AW.jf ?_ | refine AW.jj (fun hb => ?_) (fun hb => ?_) | refine AW.go ?_ | fail)
          all_goals try (exfalso; simp only [decide_eq_true_eq, decide_eq_false_iff_not, List.length_map] at *; omega)
          repeat' (first | (refine AW.r 18 ?_ <;> refine AL.es 3 ?_ <;> refine AL.d (AOp.index_sl rfl rfl (by omega) hx' (by kernel_rfl) rfl) ?_ <;> refine AL.es 1 ?_ <;> refine AL.d (AOp.call rfl rfl (hc.pure _)) ?_ <;> refine AL.nil ?_) | (refine AW.r 17 ?_ <;> refine AL.es 1 ?_ <;> refine AL.d AOp.ad ?_ <;> refine AL.es 1 ?_ <;> refine AL.nil ?_) | refine AW.jt ?_ | refine AW.jf ?_ | refine AW.jj (fun hb => ?_) (fun hb => ?_) | refine AW.go ?_ | fail)
          refine AW.again_keep (free.length - (i + 1)) [5, 7, 8] (by omega) ⟨i + 1, hlt, rfl, rfl, rfl, ?_⟩
          trivial
        · repeat' (first | refine AW.re 16 4 ?_ | (refine AW.r 20 ?_ <;> refine AL.d (AOp.call rfl rfl (hAl.pure _)) ?_ <;> refine AL.es 1 ?_ <;> refine AL.nil ?_) | refine AW.jt ?_ | refine AW.jf ?_ | refine AW.jj (fun hb => ?_) (fun hb => ?_) | refine AW.go ?_ | fail)
          all_goals try (exfalso; simp only [decide_eq_true_eq, decide_eq_false_iff_not, List.length_map] at *; omega)
          exact AW.retv rfl ⟨rfl, rfl⟩
  · rw [decide_eq_false hfew] at hF
    obtain ⟨k, ar, nm, vars, args, kids⟩ := f
    refine Tri.enter 76 Tryd.func7 rfl rfl rfl rfl fun Fr w0 => ?_
    repeat' (first | (refine AW.r 0 ?_ <;> (first | refine AL.d (AOp.box_ro (v := .st [.int .i64 k, .int .i64 ar, .str nm, strs vars, strs args, .sl (kids.map GFml.av)]) rfl rfl) ?_ | refine AL.d (AOp.box_ro rfl rfl) ?_) <;> refine AL.es 1 ?_ <;> refine AL.nil ?_) | (refine AW.r 1 ?_ <;> (first | refine AL.d AOp.la ?_ | refine AL.d (AOp.lw 0) ?_) <;> refine AL.d (AOp.lit (e := 25) (sz := 6) (by kernel_rfl) rfl rfl rfl (P_one rfl) (by decide)) ?_ <;> (first | refine AL.d (AOp.call rfl rfl (hF.pure _)) ?_ | refine AL.d (AOp.call rfl rfl (hAl.pure _)) ?_) <;> refine AL.es 1 ?_ <;> refine AL.nil ?_) | (refine AW.r 2 ?_ <;> (first | refine AL.d (AOp.call rfl rfl (hF.pure _)) ?_ | refine AL.d (AOp.call rfl rfl (hAl.pure _)) ?_) <;> refine AL.es 1 ?_ <;> refine AL.nil ?_) | refine AW.jt ?_ | refine AW.jf ?_ | refine AW.jj (fun hb => ?_) (fun hb => ?_) | refine AW.go ?_ | fail)
    exact AW.retv rfl ⟨rfl, rfl⟩
end Go.Proofs.YtlpndgodkkndnaaDoor
namespace Go.Proofs.YtlpndgodkkndnaaDoor
open Go.RowKit Go.SX
set_option maxRecDepth 100000
set_option linter.unusedVariables false
section
variable {H : Type} {enc : TypeId × Value → H} {w : World}
theorem rdInt (N : Nat) : Rd enc Tryd.prog w N 3 iav iOk := Rd.int' (by kernel_rfl)
theorem rdStr (N : Nat) : Rd enc Tryd.prog w N 9 AV.str strOk := Rd.str' (by kernel_rfl)
theorem rdStrs (N : Nat) : Rd enc Tryd.prog w N 22 strs (lenOk 16 strOk) := Rd.slice' (by kernel_rfl) (rdStr N)
theorem rdFml : ∀ N : Nat, Rd enc Tryd.prog w N 25 GFml.av GFml.Ok := Rd.all fun N ih =>
  Rd.of_q (RdQ.struct' (by kernel_rfl) (.cons (rdInt N).q (.cons (rdInt N).q (.cons (rdStr N).q (.cons (rdStrs N).q (.cons (rdStrs N).q (.cons (Rd.slice' (T := 23) (n := 104) (by kernel_rfl) ih).q (.nil)))))))) fun v h => by
    obtain ⟨vs, rfl, h⟩ := h
    obtain ⟨_, v1, rfl, ⟨a, rfl, ha⟩, h1⟩ := h.un
    obtain ⟨_, v2, rfl, ⟨b, rfl, hb⟩, h2⟩ := h1.un
    obtain ⟨_, v3, rfl, ⟨c, rfl, hc⟩, h3⟩ := h2.un
    obtain ⟨_, v4, rfl, ⟨d, rfl, hd⟩, h4⟩ := h3.un
    obtain ⟨_, v5, rfl, ⟨e, rfl, he⟩, h5⟩ := h4.un
    obtain ⟨_, v6, rfl, ⟨f, rfl, hf⟩, h6⟩ := h5.un
    obtain rfl := h6.un0
    exact ⟨⟨a, b, c, d, e, f⟩, by rw [GFml.av_eq]; rfl, .mk ⟨ha, hb, hc, hd, he⟩ hf.1 hf.2⟩
theorem rdNames : ∀ N : Nat, Rd enc Tryd.prog w N 39 (fun x : ByteArray × ByteArray => .st [.str x.1, .str x.2]) (fun x => strOk x.1 ∧ strOk x.2) := Rd.of_succ fun N =>
  Rd.of_q (RdQ.struct' (by kernel_rfl) (.cons (rdStr N).q (.cons (rdStr N).q .nil))) fun v h => by
    obtain ⟨vs, rfl, h⟩ := h
    obtain ⟨_, v1, rfl, ⟨a, rfl, ha⟩, h1⟩ := h.un
    obtain ⟨_, v2, rfl, ⟨b, rfl, hb⟩, h2⟩ := h1.un
    obtain rfl := h2.un0
    exact ⟨⟨a, b⟩, rfl, ha, hb⟩
end
end Go.Proofs.YtlpndgodkkndnaaDoor
namespace Go.Proofs.YtlpndgodkkndnaaDoor
open Go.RowKit Go.SX
set_option maxRecDepth 100000
set_option linter.unusedVariables false
set_option linter.unusedSimpArgs false
mutual
def nU : AV → Bool
  | .int k _ => !(k == .u64)
  | .bool _ => true
  | .str _ => true
  | .st fs => nUs fs
  | .sl xs => nUs xs
  | _ => false
def nUs : List AV → Bool
  | [] => true
  | x :: l => nU x && nUs l
end
mutual
theorem nU_cells {S : Rg} {w : World} : ∀ (x : AV) (cs : List Value), nU x = true → RelC S w x cs → ∀ u ∈ cs, ∀ n, u ≠ .int .u64 n
  | .int k n, cs, h, hr, u, hu, m => by
    simp only [RelC] at hr
    rw [hr, List.mem_singleton] at hu
    subst hu
    rintro ⟨⟩
    simp [nU] at h
  | .bool b, cs, h, hr, u, hu, m => by simp only [RelC] at hr; rw [hr, List.mem_singleton] at hu; subst hu; rintro ⟨⟩
  | .str s, cs, h, hr, u, hu, m => by simp only [RelC] at hr; rw [hr, List.mem_singleton] at hu; subst hu; rintro ⟨⟩
  | .st fs, cs, h, hr, u, hu, m => by
    simp only [RelC] at hr
    rw [nU] at h
    exact nUs_cells fs cs h hr u hu m
  | .sl xs, cs, h, hr, u, hu, m => by
    simp only [RelC] at hr
    obtain ⟨A, c, e, _⟩ := hr
    rw [e, List.mem_singleton] at hu
    subst hu
    rintro ⟨⟩
  | .any, _, h, _, _, _, _ => by simp [nU] at h
  | .slt _ _ _, _, h, _, _, _, _ => by simp [nU] at h
  | .osl _ _ _, _, h, _, _, _, _ => by simp [nU] at h
  | .at _, _, h, _, _, _, _ => by simp [nU] at h
  | .ref _ _, _, h, _, _, _, _ => by simp [nU] at h
  | .map _, _, h, _, _, _, _ => by simp [nU] at h
  | .fn _ _, _, h, _, _, _, _ => by simp [nU] at h
  | .tup _, _, h, _, _, _, _ => by simp [nU] at h
  | .val _, _, h, _, _, _, _ => by simp [nU] at h
theorem nUs_cells {S : Rg} {w : World} : ∀ (xs : List AV) (cs : List Value), nUs xs = true → RelCs S w xs cs → ∀ u ∈ cs, ∀ n, u ≠ .int .u64 n
  | [], cs, h, hr, u, hu, m => by simp only [RelCs] at hr; rw [hr] at hu; cases hu
  | x :: xs, cs, h, hr, u, hu, m => by
    simp only [RelCs] at hr
    obtain ⟨c1, c2, e, h1, h2⟩ := hr
    rw [nUs, Bool.and_eq_true] at h
    rw [e] at hu
    rcases List.mem_append.1 hu with hu | hu
    · exact nU_cells x c1 h.1 h1 u hu m
    · exact nUs_cells xs c2 h.2 h2 u hu m
end
section
variable {S S' : Rg} {w : World} {G : Nat}
mutual
theorem nU_mv (hG : ∀ o v, w.cell? ⟨G, o, none⟩ = some v → ∃ n, v = .int .u64 n) (hS : ∀ b o, S' b o → S b o ∨ b = G) : ∀ (x : AV) (cs : List Value), nU x = true → RelC S w x cs → RelC S' w x cs
  | .int k n, cs, h, hr => by simpa [RelC] using hr
  | .bool b, cs, h, hr => by simpa [RelC] using hr
  | .str s, cs, h, hr => by simpa [RelC] using hr
  | .st fs, cs, h, hr => by
    simp only [RelC] at hr ⊢
    rw [nU] at h
    exact nUs_mv hG hS fs cs h hr
  | .sl xs, cs, h, hr => by
    simp only [RelC] at hr ⊢
    rw [nU] at h
    obtain ⟨A, c, h1, h2, h3, h4⟩ := hr
    refine ⟨A, c, h1, h2, h3, fun hx => ?_⟩
    obtain ⟨b, o, sz, e, hr⟩ := h4 hx
    exact ⟨b, o, sz, e, nU_row hG hS xs sz b o h hr⟩
  | .any, _, h, _ => by simp [nU] at h
  | .slt _ _ _, _, h, _ => by simp [nU] at h
  | .osl _ _ _, _, h, _ => by simp [nU] at h
  | .at _, _, h, _ => by simp [nU] at h
  | .ref _ _, _, h, _ => by simp [nU] at h
  | .map _, _, h, _ => by simp [nU] at h
  | .fn _ _, _, h, _ => by simp [nU] at h
  | .tup _, _, h, _ => by simp [nU] at h
  | .val _, _, h, _ => by simp [nU] at h
theorem nUs_mv (hG : ∀ o v, w.cell? ⟨G, o, none⟩ = some v → ∃ n, v = .int .u64 n) (hS : ∀ b o, S' b o → S b o ∨ b = G) : ∀ (xs : List AV) (cs : List Value), nUs xs = true → RelCs S w xs cs → RelCs S' w xs cs
  | [], cs, h, hr => by simpa [RelCs] using hr
  | x :: xs, cs, h, hr => by
    simp only [RelCs] at hr ⊢
    obtain ⟨c1, c2, e, h1, h2⟩ := hr
    rw [nUs, Bool.and_eq_true] at h
    exact ⟨c1, c2, e, nU_mv hG hS x c1 h.1 h1, nUs_mv hG hS xs c2 h.2 h2⟩
theorem nU_row (hG : ∀ o v, w.cell? ⟨G, o, none⟩ = some v → ∃ n, v = .int .u64 n) (hS : ∀ b o, S' b o → S b o ∨ b = G) : ∀ (xs : List AV) (sz b o : Nat), nUs xs = true → RelRow S w xs sz b o → RelRow S' w xs sz b o
  | [], _, _, _, _, _ => by simp [RelRow]
  | x :: xs, sz, b, o, h, hr => by
    simp only [RelRow] at hr ⊢
    rw [nUs, Bool.and_eq_true] at h
    obtain ⟨⟨cs, h1, h2, h3⟩, h4⟩ := hr
    refine ⟨⟨cs, h1, nU_mv hG hS x cs h.1 h2, fun j u hj => ?_⟩, nU_row hG hS xs sz b (o + sz) h.2 h4⟩
    obtain ⟨k1, k2⟩ := h3 j u hj
    refine ⟨fun hs => ?_, k2⟩
    rcases hS _ _ hs with hs | rfl
    · exact k1 hs
    · obtain ⟨n, e⟩ := hG _ _ k2
      exact nU_cells x cs h.1 h2 u (List.mem_of_getElem? hj) n e
end
end
theorem nU_strs : ∀ l : List ByteArray, nUs (l.map AV.str) = true
  | [] => rfl
  | x :: l => by rw [List.map_cons, nUs, nU_strs l]; rfl
mutual
theorem nU_fmlA : ∀ f : GFml, nU f.av = true
  | ⟨k, ar, nm, vars, args, kids⟩ => by
    rw [GFml.av_eq]
    simp only [GFml.st, nU, nUs, strs, nU_strs, nU_fmlL kids]
    rfl
theorem nU_fmlL : ∀ l : List GFml, nUs (l.map GFml.av) = true
  | [] => rfl
  | x :: l => by rw [List.map_cons, nUs, nU_fmlA x, nU_fmlL l]; rfl
end
theorem nU_fml (f : GFml) : nU f.st = true := by
  rw [← GFml.av_eq]; exact nU_fmlA f
def TabAt (w : World) (t : TypeId) : Prop := ∃ cs : Array Value, w.heap[tabG]? = some (.cells cs t (0, 0)) ∧ cs.toList = Lib.pow10Tab.map fun z => Value.int .u64 z
theorem calls_TB {f : FuncId} {args : List AV} {vs : List Value} {t : TypeId} {w : World} (h : Tri Tryd.prog f args [TB t] (D (.bool true) [TB t])) (hr : RelVs NoRg w args vs) (hu : ∀ x ∈ args, nU x = true) (hc : TabAt w t) :
    Calls Tryd.prog f vs.toArray w (fun e W' => e = .returned (.bool true) ∧ Below w.heap.size w W') := by
  obtain ⟨cs, hh, hl⟩ := hc
  have hcs : ∀ (i : Nat) x, (Lib.pow10Tab.map (AV.int .u64))[i]? = some x → ∃ n, x = .int .u64 n ∧ cs[i]? = some (.int .u64 n) := fun i x hx => by
    rw [List.getElem?_map] at hx
    cases hz : Lib.pow10Tab[i]? with
    | none => rw [hz] at hx; cases hx
    | some z =>
      rw [hz] at hx
      refine ⟨z, (Option.some.inj hx).symm, ?_⟩
      rw [← Array.getElem?_toList, hl, List.getElem?_map, hz]; rfl
  have hlen : cs.size = (Lib.pow10Tab.map (AV.int .u64)).length := by rw [← Array.length_toList, hl, List.length_map, List.length_map]
  have hst : St NoRg [TB t] w := {
    nodup := by simp [TB, Own.blk]
    lt := fun o ho b hb => by
      rw [List.mem_singleton.1 ho] at hb
      simp only [TB, Own.blk, Option.some.injEq] at hb
      subst hb
      exact (Array.getElem?_eq_some_iff.1 hh).1
    fr := fun o ho b hb off h => h
    frlt := fun b o h => h.elim
    rel := fun o ho => by
      rw [List.mem_singleton.1 ho]
      refine ⟨cs, hh, hlen, fun i x hx => ?_⟩
      obtain ⟨n, rfl, hi⟩ := hcs i x hx
      exact ⟨_, hi, by simp [RelC]⟩ }
  have hG : ∀ o v, w.cell? ⟨tabG, o, none⟩ = some v → ∃ n, v = .int .u64 n := fun o v hv => by
    have e : w.cell? ⟨tabG, o, none⟩ = cs[o]? := cell_of_row w tabG o cs t (0, 0) hh
    rw [e, ← Array.getElem?_toList, hl, List.getElem?_map] at hv
    cases hz : Lib.pow10Tab[o]? with
    | none => rw [hz] at hv; cases hv
    | some z => rw [hz] at hv; exact ⟨z, (Option.some.inj hv).symm⟩
  have hS : ∀ b o, Sof NoRg [TB t] b o → NoRg b o ∨ b = tabG := by
    rintro b o (h | ⟨x, hx, hr⟩)
    · exact .inl h
    · rw [List.mem_singleton.1 hx] at hr; exact .inr hr
  have hmv : ∀ (l : List AV) (us : List Value), (∀ x ∈ l, nU x = true) → RelVs NoRg w l us → RelVs (Sof NoRg [TB t]) w l us := by
    intro l
    induction l with
    | nil => intro us _ h; simpa [RelVs] using h
    | cons x l ih =>
      intro us hx h
      simp only [RelVs] at h ⊢
      obtain ⟨u, us', h1, h2, h3, h4⟩ := h
      exact ⟨u, us', h1, nU_mv hG hS x _ (hx x (by simp)) h2, h3, ih us' (fun y hy => hx y (by simp [hy])) h4⟩
  refine (h.2 NoRg w vs hst (hmv args vs hu hr)).mono fun e W' he => ?_
  obtain ⟨x, ah, ⟨rfl, rfl⟩, hrel, hst', hext, _⟩ := he
  obtain ⟨v, rfl, hv⟩ := hrel
  refine ⟨?_, ?_⟩
  · obtain ⟨hc, hsh⟩ := hv
    simp only [RelC] at hc
    cases v <;> simp [Value.cells] at hc <;> simp_all [Shape]
  · refine ⟨hext.os, hext.tape, hext.output, hext.size, fun k hk => ?_⟩
    by_cases e : k = tabG
    · subst e
      obtain ⟨cs', h1, h2, h3⟩ := hst'.rel (TB t) (List.mem_singleton.2 rfl)
      rw [h1, hh]
      have : cs' = cs := by
        apply Array.ext_getElem?
        intro i
        by_cases hi : i < (Lib.pow10Tab.map (AV.int .u64)).length
        · obtain ⟨v, hv1, hv2⟩ := h3 i _ (List.getElem?_eq_getElem hi)
          obtain ⟨n, e, hi2⟩ := hcs i _ (List.getElem?_eq_getElem hi)
          rw [e] at hv2
          simp only [RelC, List.cons.injEq, and_true] at hv2
          rw [hv1, hi2, hv2]
        · rw [Array.getElem?_eq_none (by omega), Array.getElem?_eq_none (by omega)]
      rw [this]
    · exact hext.blk k hk fun o ho => by
        obtain ⟨x, hx, hr⟩ := ho
        rw [List.mem_singleton.1 hx] at hr
        exact e hr
theorem TabAt_of {W : World} {d1 d2 : String × DataW Unit} {k1 : String} {d3 : DataW Unit} (he : k1 = "internal/strconv.uint64pow10") (hd : d3 = Lib.tabData .u64 Lib.pow10Tab) (h : laidMet Tryd.prog [d1, d2, (k1, d3)] W) : ∃ t, TabAt W t := by
  subst he hd
  obtain ⟨n1, e1⟩ := d1
  obtain ⟨n2, e2⟩ := d2
  obtain ⟨ps, hLV, _, hcell⟩ := h
  simp only [DataW.LaidVars] at hLV
  obtain ⟨g1, t1, cs1, fu1, p1, q1, _, _, _, _, ⟨g2, t2, cs2, fu2, p2, q2, _, _, _, _, ⟨g3, t3, cs3, fu3, p3, q3, hg, hty, hv, htr, rfl, rfl⟩, rfl⟩, rfl⟩ := hLV
  obtain rfl := Option.some.inj (tabG_eq.symm.trans hg)
  have hty' : (Tryd.prog.globals[tabG]?).map (·.type) = some 137 := by kernel_rfl
  obtain rfl := Option.some.inj (hty'.symm.trans hty)
  have hcs := Lib.cells_of_tab (n := 20) (e := 130) (by kernel_rfl) (by kernel_rfl) (by kernel_rfl) (by kernel_rfl) htr
  have hsz : cs3.size = 20 := by rw [← Array.length_toList, hcs, List.length_map, Lib.pow10Tab_length]
  obtain ⟨⟨c, t, hh⟩, _⟩ := hcell tabG 0 (List.mem_append_right _ (List.mem_append_right _ (List.mem_append_left _ (List.mem_append_left _ (List.mem_map.2 ⟨0, by rw [hsz]; simp, rfl⟩)))))
  refine ⟨t, cs3, ?_, hcs⟩
  unfold World.var? at hv
  rw [tabG_eq, Option.bind_some, hh] at hv
  rw [hh, Option.some.inj hv]
end Go.Proofs.YtlpndgodkkndnaaDoor
