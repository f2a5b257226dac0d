/- Contracts of the functions, part 3. -/
import Derived.Test.YtlpndgodkkndnaaGreatDoorA2
import Derived.Test.YtlpndgodkkndnaaGreatDoorA2
import Derived.Test.YtlpndgodkkndnaaGreatDoorS2
import Derived.Test.YtlpndgodkkndnaaGreatDoorS3
namespace Go.Proofs.YtlpndgodkkndnaaGreatDoor
open Go.RowKit Go.SX
set_option maxRecDepth 100000
set_option maxHeartbeats 4000000
set_option linter.unusedVariables false
set_option linter.unusedSimpArgs false
theorem lookA_none {α : Type} {A : List (ByteArray × α)} {k : ByteArray} : lookA A k = none ↔ k ∉ A.map (·.1) := by
 induction A with
 | nil => simp [lookA]
 | cons p A ih =>
  obtain ⟨k', v⟩ := p
  rw [lookA, List.map_cons, List.mem_cons, not_or]
  by_cases e : k = k'
  ·subst e; simp
  ·rw [if_neg e, ih]; exact ⟨fun h => ⟨e, h⟩, fun h => h.2⟩
theorem lookA_some {α : Type} {A : List (ByteArray × α)} {k : ByteArray} {v : α} (hn : (A.map (·.1)).Nodup) : lookA A k = some v ↔ (k, v) ∈ A := by
 induction A with
 | nil => simp [lookA]
 | cons p A ih =>
  obtain ⟨k', w⟩ := p
  rw [List.map_cons, List.nodup_cons] at hn
  rw [lookA, List.mem_cons]
  by_cases e : k = k'
  ·subst e
   rw [if_pos rfl]
   constructor
   ·intro h; rw [Option.some.inj h]; exact .inl rfl
   ·rintro (h | h)
    ·rw [(Prod.mk.inj h).2]
    ·exact (hn.1 (List.mem_map.2 ⟨_, h, rfl⟩)).elim
  ·rw [if_neg e, ih hn.2]
   exact ⟨.inr, fun h => h.elim (fun h => (e (Prod.mk.inj h).1).elim) id⟩
theorem nodup_injA {α : Type} {l : List α} (h : l.Nodup) (i j : Nat) (hi : i < l.length) (hj : j < l.length) (e : l[i] = l[j]) : i = j := by
 rcases Nat.lt_trichotomy i j with h1 | h1 | h1
 ·exact absurd e (List.pairwise_iff_getElem.1 h i j hi hj h1)
 ·exact h1
 ·exact absurd e.symm (List.pairwise_iff_getElem.1 h j i hj hi h1)
def CopyOf {α : Type} (M A : List (ByteArray × α)) (idx : List Nat) : Prop := (A.map (·.1)).Nodup ∧ ∀ k v, (k, v) ∈ A ↔ ∃ j ∈ idx, M[j]? = some (k, v)
theorem CopyOf.step {α : Type} {M A : List (ByteArray × α)} {idx : List Nat} (hM : (M.map (·.1)).Nodup) (h : CopyOf M A idx) {j : Nat} {k : ByteArray} {v : α} (hj : j ∉ idx) (hk : M[j]? = some (k, v)) : CopyOf M (setA A k v) (idx ++ [j]) := by
 have hno : k ∉ A.map (·.1) := by
  intro hm
  obtain ⟨⟨k', v'⟩, hp, rfl⟩ := List.mem_map.1 hm
  obtain ⟨j', hj', hk'⟩ := (h.2 _ _).1 hp
  have h1 := (List.getElem?_eq_some_iff.1 hk).1
  have h2 := (List.getElem?_eq_some_iff.1 hk').1
  have : j = j' := nodup_injA hM j j' (by simpa using h1) (by simpa using h2) (by
   have e1 : (M.map (·.1))[j]? = some k' := by rw [List.getElem?_map, hk]; rfl
   have e2 : (M.map (·.1))[j']? = some k' := by rw [List.getElem?_map, hk']; rfl
   rw [List.getElem?_eq_getElem (by simpa using h1)] at e1
   rw [List.getElem?_eq_getElem (by simpa using h2)] at e2
   exact (Option.some.inj e1).trans (Option.some.inj e2).symm)
  exact hj (this ▸ hj')
 rw [setA_miss (lookA_none.2 hno)]
 refine ⟨?_, fun k' v' => ?_⟩
 ·rw [List.map_append, List.nodup_append]
  refine ⟨h.1, by simp, ?_⟩
  rintro a ha b hb rfl
  simp only [List.map_cons, List.map_nil, List.mem_singleton] at hb
  subst hb; exact hno ha
 ·rw [List.mem_append, h.2, List.mem_singleton]
  constructor
  ·rintro (⟨j', hj', e⟩ | e)
   ·exact ⟨j', List.mem_append_left _ hj', e⟩
   ·exact ⟨j, by simp, by rw [hk, e]⟩
  ·rintro ⟨j', hj', e⟩
   rcases List.mem_append.1 hj' with hj' | hj'
   ·exact .inl ⟨j', hj', e⟩
   ·rw [List.mem_singleton.1 hj', hk] at e
    exact .inr (Option.some.inj e).symm
theorem CopyOf.all {α : Type} {M A : List (ByteArray × α)} {idx : List Nat} (hM : (M.map (·.1)).Nodup) (h : CopyOf M A idx) (ha : ∀ j, j < M.length → j ∈ idx) (v : ByteArray) : lookA A v = lookA M v := by
 have key : ∀ w, lookA A v = some w ↔ lookA M v = some w := fun w => by
  rw [lookA_some h.1, lookA_some hM, h.2]
  constructor
  ·rintro ⟨j, _, e⟩; exact lG e
  ·intro hm
   obtain ⟨j, hj⟩ := List.getElem?_of_mem hm
   exact ⟨j, ha j (List.getElem?_eq_some_iff.1 hj).1, hj⟩
 cases h1 : lookA A v with
 | none =>
  cases h2 : lookA M v with
  | none => rfl
  | some w => rw [(key w).2 h2] at h1; cases h1
 | some w => rw [(key w).1 h1]
theorem setA_nodup {α : Type} {A : List (ByteArray × α)} {k : ByteArray} {v : α} (h : (A.map (·.1)).Nodup) : ((setA A k v).map (·.1)).Nodup := by
 cases hL : lookA A k with
 | none =>
  rw [setA_miss hL, List.map_append, List.nodup_append]
  refine ⟨h, by simp, ?_⟩
  rintro a ha b hb rfl
  simp only [List.map_cons, List.map_nil, List.mem_singleton] at hb
  subst hb; exact lookA_none.1 hL ha
 | some u =>
  obtain ⟨j, hj, hs⟩ := setA_hit hL
  have e : (A.set j (k, v)).map (·.1) = A.map (·.1) := by
   rw [List.map_set]
   apply List.ext_getElem?
   intro q
   rw [List.getElem?_set]
   split
   ·subst_vars
    split
    ·rw [List.getElem?_map, hj]; rfl
    ·rw [List.getElem?_eq_none (by omega)]
   ·rfl
  rw [hs, e]; exact h
theorem upV_snoc (x w : ByteArray) : ∀ (l r : List ByteArray) (σ : Sb), l.length = r.length → upV (l ++ [x]) (r ++ [w]) σ = up1 (upV l r σ) x w
 | [], [], σ, _ => rfl
 | v :: l, u :: r, σ, h => by rw [List.cons_append, List.cons_append, upV, upV_snoc x w l r _ (by simpa using h), upV]
 | [], u :: r, σ, h => by simp at h
 | v :: l, [], σ, h => by simp at h
theorem permAp {α : Type} (m r7 r6 a b c : α) (X : List α) : (m :: r7 :: r6 :: a :: b :: c :: X).Perm (r7 :: a :: b :: c :: m :: r6 :: X) := by
 refine (List.Perm.swap r7 m _).trans (.cons _ ?_)
 exact (List.perm_append_comm (l₁ := [m, r6]) (l₂ := [a, b, c])).append_right X
theorem tailD {P : Program} {f : FuncId} {args : List AV} {b b' : AH} {v : AV} (h : Tri P f args b (D v b')) (a : AH) : Tri P f args (a ++ b) (D v (a ++ b')) := by
 have := h.aroundD a []
 simpa using this
abbrev coreH (t : TypeId) (rn mt n : Nat) (tk : List ByteArray) (g : MG) : AH := [TB t, .box rn (nmAV mt n), .map mt (kvW bav (bmap tk)) g]
def ApM (mv : AV) (X : AH) (σ : Sb) : Prop := (mv = nilM ∧ X = [] ∧ σ = fun _ => none) ∨ ∃ mb M1 gm, mv = .map mb ∧ X = [.map mb (kvW AV.str M1) gm] ∧ (M1.map (·.1)).Nodup ∧ ∀ v, lookA M1 v = σ v
theorem renamed_any {mv : AV} {X : AH} {σ : Sb} (h : ApM mv X σ) (l : List ByteArray) (hl : l.length ≤ 8796093021952) : Tri Tryz.prog 100 [strs l, mv] X (D (strs (l.map (rnS σ))) X) := by
 rcases h with ⟨rfl, rfl, rfl⟩ | ⟨mb, M1, gm, rfl, rfl, _, h⟩
 ·have e : l.map (rnS fun _ => none) = l := (List.map_congr_left (f := rnS fun _ => none) (g := id) fun x _ => rfl).trans (List.map_id _)
  rw [e]
  exact n_renamed_nil l hl
 ·have e : l.map (rnS σ) = l.map (rnV M1) := List.map_congr_left fun x _ => by rw [rnS, rnV, h]
  rw [e]
  exact n_renamed M1 mb gm l hl
theorem n_apart (t : TypeId) (rn mt T : Nat) : ∀ (N : Nat) (f : GFml) (mv : AV) (X : AH) (σ : Sb) (tk : List ByteArray) (n : Nat) (g0 : MG), ndF f ≤ N → f.Ok → ApM mv X σ → tk.length + (bdF f).length ≤ T → n + (bdF f).length * (T + 1) ≤ 9000000000 →
  Tri Tryz.prog 54 [.ref rn 0, f.st, mv] (coreH t rn mt n tk g0 ++ X) (fun r h => r = .ret (apF f σ tk n).1.st ∧ ∃ g', h = coreH t rn mt (apF f σ tk n).2.2 (apF f σ tk n).2.1 g' ++ X) := by
 intro N
 induction N using Nat.strongRecOn with
 | _ N ih =>
  intro f mv X σ tk n g0 hN ho hM hT1 hT2
  have hnd := ndF_eq f
  have hW0 := n_with0 f ho
  have hW1 := fun h => n_with_own f h ho
  have ho2 := ho
  obtain ⟨⟨_, _, _, q4, q5⟩, q6, q7⟩ := ho
  have l4 := q4.1
  have l5 := q5.1
  have hR := renamed_any hM f.Args (by omega)
  obtain ⟨k, ar, nm, vars, args, kids⟩ := f
  rw [apF]
  rw [bdF, lA] at hT1 hT2
  rw [Nat.add_mul] at hT2
  simp only at *
  by_cases hv : vars = []
  ·subst hv
   have e0 : frL ([] : List ByteArray).length tk n = ([], n) := rfl
   have e1 : upV [] ([] : List ByteArray) σ = σ := rfl
   rw [e0]
   simp only [e1, List.append_nil]
   simp only [List.length_nil, Nat.zero_add, Nat.zero_mul] at hT1 hT2
   rw [Nat.add_zero] at hT2
   generalize hargs2 : args.map (rnS σ) = args2 at *
   have hM2 := hM
   rcases hM with ⟨rfl, rfl, rfl⟩ | ⟨mb, M1, gm, rfl, rfl, hM3, hM4⟩
   ·have hR' := Tri.pure hR
    refine Tri.enter 76 Tryz.func54 rfl rfl rfl rfl fun Fr w0 => ?_
    repeat' (first | (refine AW.r 0 ?_; (refine AL.d (AOp.box_ro (v := .st [.int .i64 k, .int .i64 ar, .str nm, strs [], strs args, .sl (kids.map GFml.av)]) rfl rfl) ?_) <;> refine AL.alloc_z (t := 25) zF (by kernel_rfl) rfl rfl fun r6 => ?_ <;> refine AL.nil ?_) | refine AW.go ?_ | fail)
    repeat' (first | (refine AW.r 1 ?_; refine AL.d AOp.la ?_; refine AL.d (AOp.call_nil2 rfl rfl (hW0.pure _)) ?_; refine AL.alloc_z (t := 25) zF (by kernel_rfl) rfl rfl fun r7 => ?_; refine AL.sl 0 ?_; refine AL.nil ?_) | refine AW.go ?_ | fail)
    repeat' (first | (refine AW.r 2 ?_; refine AL.d AOp.fa ?_; refine AL.d AOp.la ?_; refine AL.es 1 ?_; refine AL.d (AOp.call rfl rfl (hR' _)) ?_; refine AL.d (AOp.fr 4) ?_; refine AL.sl 0 ?_; refine AL.nil ?_) | (refine AW.r 3 ?_; refine AL.d AOp.fa ?_; refine AL.d AOp.la ?_; refine xN 2 ?_) | refine AW.jf ?_ | refine AW.go ?_ | fail)
    refine AW.weak_box 0 (.st [.int .i64 k, .int .i64 ar, .str nm, strs [], strs args2, .slt [] none 0]) rfl (.st (.cons (.refl _) (.cons (.refl _) (.cons (.refl _) (.cons (.refl _) (.cons (.refl _) (.cons wk_nil .nil))))))) ?_
    refine AW.own_nil 6 ?_
    refine AW.perm (b := [.tail none 0 0 6, .box r7 (.st [.int .i64 k, .int .i64 ar, .str nm, strs [], strs args2, .slt [] none 0]), TB t, .box rn (nmAV mt n), .map mt (kvW bav (bmap tk)) g0, .box r6 zF]) ((List.perm_append_comm (l₁ := [_]) (l₂ := [_, _, _])).cons _ |>.cons _) ?_
    repeat' (first | refine AW.re 16 4 ?_ | refine AW.go ?_ | fail)
    refine AW.prune [0, 2, 4, 6, 7, 59, 60, 61] (AW.loop (fun mz af h => ∃ (i : Nat) (o : List GFml) (tt : Option Nat) (cc : Nat) (tkk : List ByteArray) (nn : Nat) (gg : MG), i ≤ kids.length ∧ mz = kids.length - i ∧ af = [(0, .ref rn 0), (2, nilM), (4, .at (.st [.int .i64 k, .int .i64 ar, .str nm, strs [], strs args, .sl (kids.map GFml.av)])), (6, .ref r6 0), (7, .ref r7 0), (59, .sl (kids.map GFml.av)), (60, .int .i64 (kids.map GFml.av).length), (61, .int .i64 i)] ∧ h = [.tail tt (o.map GFml.av).length cc 6, .box r7 (.st [.int .i64 k, .int .i64 ar, .str nm, strs [], strs args2, .slt (o.map GFml.av) tt cc]), TB t, .box rn (nmAV mt nn), .map mt (kvW bav (bmap tkk)) gg, .box r6 zF] ∧ (apL kids (fun _ => none) tk n = (o ++ (apL (kids.drop i) (fun _ => none) tkk nn).1, (apL (kids.drop i) (fun _ => none) tkk nn).2) ∧ o.length = i ∧ tkk.length + (bdL (kids.drop i)).length ≤ T ∧ nn + (bdL (kids.drop i)).length * (T + 1) ≤ 9000000000)) kids.length ⟨0, [], none, 0, tk, n, g0, Nat.zero_le _, rfl, rfl, rfl, ⟨rfl, rfl, hT1, hT2⟩⟩ ?_)
    rintro mz af h ⟨i, o, tt, cc, tkk, nn, gg, hi, rfl, rfl, rfl, he⟩
    refine AW.seq ?_
    by_cases hlt : i < kids.length
    ·obtain ⟨he, hol, hb1, hb2⟩ := he
     obtain ⟨x, hx⟩ := get_lt hlt
     have hx' : (kids.map GFml.av)[((i : Nat) : Int).toNat]? = some (x.st) := GFml.get hx
     have hxm := lG hx
     have hnx := ndFs_mem hxm
     rw [drop_cons hx, bdL, lA] at hb1 hb2
     rw [Nat.add_mul] at hb2
     rw [drop_cons hx, apL] at he
     have hbd := ap_bd T x (fun _ => none) tkk nn (by omega)
     have htk := ap_tk x (fun _ => none) tkk nn
     have hc := Tri.around (ih (ndF x) (by omega) x (nilM) [] (fun _ => none) tkk nn gg (Nat.le_refl _) (q7 x hxm) hM2 (by omega) (by omega)) [.tail tt (o.map GFml.av).length cc 6, .box r7 (.st [.int .i64 k, .int .i64 ar, .str nm, strs [], strs args2, .slt (o.map GFml.av) tt cc])] []
     generalize hap : apF x (fun _ => none) tkk nn = R at *
     obtain ⟨y, tk2, n2⟩ := R
     simp only at htk hbd he hc
     have htl : tk2.length = tkk.length + (bdF x).length := by rw [htk, lA, hbd.2.2]
     have hol2 : o.length ≤ 1353245080300 := by omega
     have hm : (o ++ [y]).map GFml.av = o.map GFml.av ++ [y.st] := by simp [GFml.av_eq]
     repeat' (first | refine AW.re 17 1 ?_ | refine AW.jj (fun hb => ?_) (fun hb => ?_) | refine AW.go ?_ | fail)
     all_goals try (exfalso; simp only [dT, dF, lM] at *; omega)
     repeat' (first | (refine AW.r 18 ?_; refine AL.d (iX hx') ?_; refine AL.d AOp.la ?_; refine AL.alloc_z (t := 25) zF (by kernel_rfl) rfl rfl fun r14 => ?_; refine AL.sl 0 ?_; refine AL.nil ?_) | fail)
     repeat' (first | fail)
     refine AW.explore [false, true, true, true, true, true] [1, 5, 6, 7, 9] rfl (by kernel_rfl) (by kernel_rfl) (by kernel_rfl) (by kernel_rfl) ?_
     refine AQE.op rfl (AOp.fr 5) rfl rfl ?_
     refine AQE.hole rfl rfl ?_
     refine AQE.ev rfl rfl rfl rfl ?_
     refine AQE.op rfl (AOp.lw 0) rfl rfl ?_
     refine AQE.ev rfl rfl rfl rfl ?_
     refine AQE.hole rfl rfl ?_
     refine AQE.hole rfl rfl ?_
     refine AQE.hole rfl rfl ?_
     refine AQE.op rfl (AOp.fr 5) rfl rfl ?_
     refine AQE.hole rfl rfl ?_
     refine AQE.nil ?_
     repeat' (first | refine AX.two (n := 4) 1 5 rfl ?_ ?_ | refine AX.two (n := 3) 1 6 rfl ?_ ?_ | refine AX.one (n := 3) 5 rfl ?_ | refine AX.one (n := 2) 6 rfl ?_ | refine AX.one (n := 2) 1 rfl ?_ | refine AX.one (n := 1) 7 rfl ?_ | refine AX.one (n := 0) 9 rfl ?_ | (refine AXS.det (i := 1) rfl rfl rfl (AOp.ll 1) ?_; dsimp only [sA, sB]) | (refine AXS.step (i := 5) rfl rfl rfl (AOp.call rfl rfl hc) ?_ (by rintro _ _ ⟨_, ⟨e, _⟩, _⟩; cases e); rintro _ _ ⟨_, ⟨e, g', rfl⟩, rfl⟩; injection e with e; subst e; dsimp only [sA, sB]) | (refine AXS.det (i := 6) rfl rfl rfl (AOp.lit (e := 25) (sz := 6) (by kernel_rfl) rfl rfl rfl (P_one rfl) (by decide)) ?_; dsimp only [sA, sB]) | (refine AXS.at (q := 7) rfl rfl ?_; refine AXO.append (i := 0) (xs := o.map GFml.av) (e := 25) (sz := 6) (bytes := 104) rfl rfl rfl rfl (by kernel_rfl) (by kernel_rfl) (P_map GFml.size_av) (P_one rfl) rfl (by simp only [lM]; simp; omega) (by simp only [lM]; simp; omega) rfl fun b' c' => ?_; dsimp only [sA, sB]) | (refine AXS.at (q := 9) rfl rfl ?_; refine AXO.sl 1 (fun _ => ?_); dsimp only [sA, sB]) | fail)
     all_goals
      refine AX.done [(0, .ref rn 0), (2, nilM), (4, .at (.st [.int .i64 k, .int .i64 ar, .str nm, strs [], strs args, .sl (kids.map GFml.av)])), (6, .ref r6 0), (7, .ref r7 0), (59, .sl (kids.map GFml.av)), (60, .int .i64 (kids.map GFml.av).length), (61, .int .i64 i)] rfl ?_
      refine AW.drop (ah' := [.tail b' ((o ++ [y]).map GFml.av).length c' 6, .box r7 (.st [.int .i64 k, .int .i64 ar, .str nm, strs [], strs args2, .slt ((o ++ [y]).map GFml.av) b' c']), TB t, .box rn (nmAV mt n2), .map mt (kvW bav (bmap tk2)) g', .box r6 zF]) (by rw [hm]; exact List.Sublist.cons_cons _ <| List.Sublist.cons_cons _ <| List.Sublist.cons_cons _ <| List.Sublist.cons_cons _ <| List.Sublist.cons_cons _ <| List.sublist_cons_self _ _) ?_
      repeat' (first | (refine AW.r 20 ?_; refine AL.d AOp.ad ?_; refine xN 1 ?_) | fail)
      refine AW.again_keep (kids.length - (i + 1)) [0, 2, 4, 6, 7, 59, 60, 61] (by omega) ⟨i + 1, o ++ [y], b', c', tk2, n2, g', hlt, rfl, rfl, rfl, ?_⟩
      refine ⟨by rw [he]; simp, by simp; omega, by omega, by omega⟩
    ·obtain ⟨he, hol, _, _⟩ := he
     rw [List.drop_eq_nil_of_le (by omega), apL] at he
     simp only [List.append_nil] at he
     rw [he]
     refine AW.weak_box 1 (.st [.int .i64 k, .int .i64 ar, .str nm, strs [], strs args2, .sl (o.map GFml.av)]) rfl (.st (.cons (.refl _) (.cons (.refl _) (.cons (.refl _) (.cons (.refl _) (.cons (.refl _) (.cons .slt .nil))))))) ?_
     repeat' (first | refine AW.re 17 1 ?_ | refine AW.jj (fun hb => ?_) (fun hb => ?_) | refine AW.go ?_ | fail)
     all_goals try (exfalso; simp only [dT, dF, lM] at *; omega)
     repeat' (first | (refine AW.r 21 ?_; refine AL.d (AOp.lw 1) ?_; refine AL.sl 5 ?_; refine AL.nil ?_) | fail)
     exact AW.retc (.cell 5 rfl rfl (by kernel_rfl) .nil) (.cons _ (.cons _ (.cons_cons _ (.cons_cons _ (.cons_cons _ (.cons _ .slnil)))))) ⟨rfl, gg, rfl⟩
   ·refine Tri.enter 76 Tryz.func54 rfl rfl rfl rfl fun Fr w0 => ?_
    repeat' (first | (refine AW.r 0 ?_; (refine AL.d (AOp.box_ro (v := .st [.int .i64 k, .int .i64 ar, .str nm, strs [], strs args, .sl (kids.map GFml.av)]) rfl rfl) ?_) <;> refine AL.alloc_z (t := 25) zF (by kernel_rfl) rfl rfl fun r6 => ?_ <;> refine AL.nil ?_) | refine AW.go ?_ | fail)
    repeat' (first | (refine AW.r 1 ?_; refine AL.d AOp.la ?_; refine AL.d (AOp.call_nil2 rfl rfl (hW0.pure _)) ?_; refine AL.alloc_z (t := 25) zF (by kernel_rfl) rfl rfl fun r7 => ?_; refine AL.sl 0 ?_; refine AL.nil ?_) | refine AW.go ?_ | fail)
    repeat' (first | (refine AW.r 2 ?_; refine AL.d AOp.fa ?_; refine AL.d AOp.la ?_; refine AL.es 1 ?_; refine AL.d (AOp.call rfl rfl (Tri.aroundD hR [_, _, _, _, _] [])) ?_; refine AL.d (AOp.fr 4) ?_; refine AL.sl 0 ?_; refine AL.nil ?_) | (refine AW.r 3 ?_; refine AL.d AOp.fa ?_; refine AL.d AOp.la ?_; refine xN 2 ?_) | refine AW.jf ?_ | refine AW.go ?_ | fail)
    refine AW.weak_box 0 (.st [.int .i64 k, .int .i64 ar, .str nm, strs [], strs args2, .slt [] none 0]) rfl (.st (.cons (.refl _) (.cons (.refl _) (.cons (.refl _) (.cons (.refl _) (.cons (.refl _) (.cons wk_nil .nil))))))) ?_
    refine AW.own_nil 6 ?_
    refine AW.perm (b := [.tail none 0 0 6, .box r7 (.st [.int .i64 k, .int .i64 ar, .str nm, strs [], strs args2, .slt [] none 0]), TB t, .box rn (nmAV mt n), .map mt (kvW bav (bmap tk)) g0, .map mb (kvW AV.str M1) gm, .box r6 zF]) ((List.perm_append_comm (l₁ := [_]) (l₂ := [_, _, _, _])).cons _ |>.cons _) ?_
    repeat' (first | refine AW.re 16 4 ?_ | refine AW.go ?_ | fail)
    refine AW.prune [0, 2, 4, 6, 7, 59, 60, 61] (AW.loop (fun mz af h => ∃ (i : Nat) (o : List GFml) (tt : Option Nat) (cc : Nat) (tkk : List ByteArray) (nn : Nat) (gg : MG), i ≤ kids.length ∧ mz = kids.length - i ∧ af = [(0, .ref rn 0), (2, .map mb), (4, .at (.st [.int .i64 k, .int .i64 ar, .str nm, strs [], strs args, .sl (kids.map GFml.av)])), (6, .ref r6 0), (7, .ref r7 0), (59, .sl (kids.map GFml.av)), (60, .int .i64 (kids.map GFml.av).length), (61, .int .i64 i)] ∧ h = [.tail tt (o.map GFml.av).length cc 6, .box r7 (.st [.int .i64 k, .int .i64 ar, .str nm, strs [], strs args2, .slt (o.map GFml.av) tt cc]), TB t, .box rn (nmAV mt nn), .map mt (kvW bav (bmap tkk)) gg, .map mb (kvW AV.str M1) gm, .box r6 zF] ∧ (apL kids σ tk n = (o ++ (apL (kids.drop i) σ tkk nn).1, (apL (kids.drop i) σ tkk nn).2) ∧ o.length = i ∧ tkk.length + (bdL (kids.drop i)).length ≤ T ∧ nn + (bdL (kids.drop i)).length * (T + 1) ≤ 9000000000)) kids.length ⟨0, [], none, 0, tk, n, g0, Nat.zero_le _, rfl, rfl, rfl, ⟨rfl, rfl, hT1, hT2⟩⟩ ?_)
    rintro mz af h ⟨i, o, tt, cc, tkk, nn, gg, hi, rfl, rfl, rfl, he⟩
    refine AW.seq ?_
    by_cases hlt : i < kids.length
    ·obtain ⟨he, hol, hb1, hb2⟩ := he
     obtain ⟨x, hx⟩ := get_lt hlt
     have hx' : (kids.map GFml.av)[((i : Nat) : Int).toNat]? = some (x.st) := GFml.get hx
     have hxm := lG hx
     have hnx := ndFs_mem hxm
     rw [drop_cons hx, bdL, lA] at hb1 hb2
     rw [Nat.add_mul] at hb2
     rw [drop_cons hx, apL] at he
     have hbd := ap_bd T x σ tkk nn (by omega)
     have htk := ap_tk x σ tkk nn
     have hc := Tri.around (ih (ndF x) (by omega) x (.map mb) [.map mb (kvW AV.str M1) gm] σ tkk nn gg (Nat.le_refl _) (q7 x hxm) hM2 (by omega) (by omega)) [.tail tt (o.map GFml.av).length cc 6, .box r7 (.st [.int .i64 k, .int .i64 ar, .str nm, strs [], strs args2, .slt (o.map GFml.av) tt cc])] []
     generalize hap : apF x σ tkk nn = R at *
     obtain ⟨y, tk2, n2⟩ := R
     simp only at htk hbd he hc
     have htl : tk2.length = tkk.length + (bdF x).length := by rw [htk, lA, hbd.2.2]
     have hol2 : o.length ≤ 1353245080300 := by omega
     have hm : (o ++ [y]).map GFml.av = o.map GFml.av ++ [y.st] := by simp [GFml.av_eq]
     repeat' (first | refine AW.re 17 1 ?_ | refine AW.jj (fun hb => ?_) (fun hb => ?_) | refine AW.go ?_ | fail)
     all_goals try (exfalso; simp only [dT, dF, lM] at *; omega)
     repeat' (first | (refine AW.r 18 ?_; refine AL.d (iX hx') ?_; refine AL.d AOp.la ?_; refine AL.alloc_z (t := 25) zF (by kernel_rfl) rfl rfl fun r14 => ?_; refine AL.sl 0 ?_; refine AL.nil ?_) | fail)
     repeat' (first | fail)
     refine AW.explore [false, true, true, true, true, true, true] [1, 5, 6, 7, 9] rfl (by kernel_rfl) (by kernel_rfl) (by kernel_rfl) (by kernel_rfl) ?_
     refine AQE.op rfl (AOp.fr 5) rfl rfl ?_
     refine AQE.hole rfl rfl ?_
     refine AQE.ev rfl rfl rfl rfl ?_
     refine AQE.op rfl (AOp.lw 0) rfl rfl ?_
     refine AQE.ev rfl rfl rfl rfl ?_
     refine AQE.hole rfl rfl ?_
     refine AQE.hole rfl rfl ?_
     refine AQE.hole rfl rfl ?_
     refine AQE.op rfl (AOp.fr 5) rfl rfl ?_
     refine AQE.hole rfl rfl ?_
     refine AQE.nil ?_
     repeat' (first | refine AX.two (n := 4) 1 5 rfl ?_ ?_ | refine AX.two (n := 3) 1 6 rfl ?_ ?_ | refine AX.one (n := 3) 5 rfl ?_ | refine AX.one (n := 2) 6 rfl ?_ | refine AX.one (n := 2) 1 rfl ?_ | refine AX.one (n := 1) 7 rfl ?_ | refine AX.one (n := 0) 9 rfl ?_ | (refine AXS.det (i := 1) rfl rfl rfl (AOp.ll 1) ?_; dsimp only [sA, sB]) | (refine AXS.step (i := 5) rfl rfl rfl (AOp.call rfl rfl hc) ?_ (by rintro _ _ ⟨_, ⟨e, _⟩, _⟩; cases e); rintro _ _ ⟨_, ⟨e, g', rfl⟩, rfl⟩; injection e with e; subst e; dsimp only [sA, sB]) | (refine AXS.det (i := 6) rfl rfl rfl (AOp.lit (e := 25) (sz := 6) (by kernel_rfl) rfl rfl rfl (P_one rfl) (by decide)) ?_; dsimp only [sA, sB]) | (refine AXS.at (q := 7) rfl rfl ?_; refine AXO.append (i := 0) (xs := o.map GFml.av) (e := 25) (sz := 6) (bytes := 104) rfl rfl rfl rfl (by kernel_rfl) (by kernel_rfl) (P_map GFml.size_av) (P_one rfl) rfl (by simp only [lM]; simp; omega) (by simp only [lM]; simp; omega) rfl fun b' c' => ?_; dsimp only [sA, sB]) | (refine AXS.at (q := 9) rfl rfl ?_; refine AXO.sl 1 (fun _ => ?_); dsimp only [sA, sB]) | fail)
     all_goals
      refine AX.done [(0, .ref rn 0), (2, .map mb), (4, .at (.st [.int .i64 k, .int .i64 ar, .str nm, strs [], strs args, .sl (kids.map GFml.av)])), (6, .ref r6 0), (7, .ref r7 0), (59, .sl (kids.map GFml.av)), (60, .int .i64 (kids.map GFml.av).length), (61, .int .i64 i)] rfl ?_
      refine AW.drop (ah' := [.tail b' ((o ++ [y]).map GFml.av).length c' 6, .box r7 (.st [.int .i64 k, .int .i64 ar, .str nm, strs [], strs args2, .slt ((o ++ [y]).map GFml.av) b' c']), TB t, .box rn (nmAV mt n2), .map mt (kvW bav (bmap tk2)) g', .map mb (kvW AV.str M1) gm, .box r6 zF]) (by rw [hm]; exact List.Sublist.cons_cons _ <| List.Sublist.cons_cons _ <| List.Sublist.cons_cons _ <| List.Sublist.cons_cons _ <| List.Sublist.cons_cons _ <| List.Sublist.cons_cons _ <| List.sublist_cons_self _ _) ?_
      repeat' (first | (refine AW.r 20 ?_; refine AL.d AOp.ad ?_; refine xN 1 ?_) | fail)
      refine AW.again_keep (kids.length - (i + 1)) [0, 2, 4, 6, 7, 59, 60, 61] (by omega) ⟨i + 1, o ++ [y], b', c', tk2, n2, g', hlt, rfl, rfl, rfl, ?_⟩
      refine ⟨by rw [he]; simp, by simp; omega, by omega, by omega⟩
    ·obtain ⟨he, hol, _, _⟩ := he
     rw [List.drop_eq_nil_of_le (by omega), apL] at he
     simp only [List.append_nil] at he
     rw [he]
     refine AW.weak_box 1 (.st [.int .i64 k, .int .i64 ar, .str nm, strs [], strs args2, .sl (o.map GFml.av)]) rfl (.st (.cons (.refl _) (.cons (.refl _) (.cons (.refl _) (.cons (.refl _) (.cons (.refl _) (.cons .slt .nil))))))) ?_
     repeat' (first | refine AW.re 17 1 ?_ | refine AW.jj (fun hb => ?_) (fun hb => ?_) | refine AW.go ?_ | fail)
     all_goals try (exfalso; simp only [dT, dF, lM] at *; omega)
     repeat' (first | (refine AW.r 21 ?_; refine AL.d (AOp.lw 1) ?_; refine AL.sl 6 ?_; refine AL.nil ?_) | fail)
     exact AW.retc (.cell 6 rfl rfl (by kernel_rfl) .nil) (.cons _ (.cons _ (.cons_cons _ (.cons_cons _ (.cons_cons _ (.cons_cons _ (.cons _ .slnil))))))) ⟨rfl, gg, rfl⟩
  ·have hvl : 0 < vars.length := List.length_pos_iff.2 hv
   have hW1' := hW1 hv
   generalize hargs2 : args.map (rnS σ) = args2 at *
   refine Tri.enter 76 Tryz.func54 rfl rfl rfl rfl fun Fr w0 => ?_
   repeat' (first | (refine AW.r 0 ?_; (refine AL.d (AOp.box_ro (v := .st [.int .i64 k, .int .i64 ar, .str nm, strs vars, strs args, .sl (kids.map GFml.av)]) rfl rfl) ?_) <;> refine AL.alloc_z (t := 25) zF (by kernel_rfl) rfl rfl fun r6 => ?_ <;> refine AL.nil ?_) | refine AW.go ?_ | fail)
   repeat' (first | (refine AW.r 1 ?_; refine AL.d AOp.la ?_; (refine AL.callQ_nil2 rfl rfl (hW1'.pureE _) rfl ?_ ?_; rotate_left; rintro _ _ ⟨_, ⟨_, _, e, _⟩, _⟩; cases e; rintro _ _ ⟨_, ⟨vb, vc, e, rfl⟩, rfl⟩; injection e with e; subst e) <;> refine AL.alloc_z (t := 25) zF (by kernel_rfl) rfl rfl fun r7 => ?_ <;> refine AL.sl 0 ?_ <;> refine AL.nil ?_) | refine AW.go ?_ | fail)
   repeat' (first | (refine AW.r 2 ?_; refine AL.d AOp.fa ?_; refine AL.d AOp.la ?_; refine AL.es 1 ?_; refine AL.d (AOp.call rfl rfl (tailD hR [_, _, _, _, _, _])) ?_; refine AL.d (AOp.fr 4) ?_; refine AL.sl 0 ?_; refine AL.nil ?_) | (refine AW.r 3 ?_; refine AL.d AOp.fa ?_; refine AL.d AOp.la ?_; refine xN 2 ?_) | refine AW.jj (fun hb => ?_) (fun hb => ?_) | refine AW.go ?_ | fail)
   all_goals try (exfalso; simp only [dT, dF, lM] at *; omega)
   repeat' (first | (refine AW.r 4 ?_; refine AL.makeMap rfl fun m8 => ?_; refine xN 1 ?_) | fail)
   refine AW.seq ?_
   refine AW.cut (fun af ah => ∃ (A : List (ByteArray × ByteArray)) (g8 : MG), (A.map (·.1)).Nodup ∧ (∀ v, lookA A v = σ v) ∧ af = [(0, .ref rn 0), (4, .at (.st [.int .i64 k, .int .i64 ar, .str nm, strs vars, strs args, .sl (kids.map GFml.av)])), (6, .ref r6 0), (7, .ref r7 0), (8, .map m8)] ∧ ah = .map m8 (kvW AV.str A) g8 :: [.box r7 (.st [.int .i64 k, .int .i64 ar, .str nm, .osl vb vars.length vc, strs args2, nilS]), .row vb (vars.map AV.str), .box r6 zF, TB t, .box rn (nmAV mt n), .map mt (kvW bav (bmap tk)) g0] ++ X) ?_ ?_
   ·rcases hM with ⟨rfl, rfl, rfl⟩ | ⟨mb, M1, gm, rfl, rfl, hM3, hM4⟩
    ·repeat' (first | (refine xS 5 1 ?_; refine AL.range_nil 9 .string rfl (by kernel_rfl) rfl fun it => ?_; refine AL.nil ?_) | refine AW.go ?_ | fail)
     refine AW.prune [0, 4, 6, 7, 8, 28] (AW.loop (fun m af h => m = 0 ∧ af = [(0, .ref rn 0), (4, .at (.st [.int .i64 k, .int .i64 ar, .str nm, strs vars, strs args, .sl (kids.map GFml.av)])), (6, .ref r6 0), (7, .ref r7 0), (8, .map m8), (28, .ref it 0)] ∧ h = .niter it :: .map m8 (kvW AV.str []) ⟨[], 0⟩ :: [.box r7 (.st [.int .i64 k, .int .i64 ar, .str nm, .osl vb vars.length vc, strs args2, nilS]), .row vb (vars.map AV.str), .box r6 zF, TB t, .box rn (nmAV mt n), .map mt (kvW bav (bmap tk)) g0]) 0 ⟨rfl, rfl, rfl⟩ ?_)
     rintro m af h ⟨rfl, rfl, rfl⟩
     refine AW.seq ?_
     repeat' (first | (refine AW.r 6 ?_; refine AL.d (AOp.next_nil 0 rfl rfl) ?_; refine xN 1 ?_) | refine AW.jf ?_ | refine AW.go ?_ | fail)
     refine AW.drop (List.sublist_cons_self _ _) ?_
     exact AW.meet [0, 4, 6, 7, 8] ⟨[], _, List.nodup_nil, fun v => rfl, rfl, rfl⟩
    ·repeat' (first | (refine xS 5 1 ?_; refine AL.range 7 9 .string rfl rfl (by kernel_rfl) rfl fun it => ?_; refine AL.nil ?_) | refine AW.go ?_ | fail)
     refine AW.prune [0, 4, 6, 7, 8, 28] (AW.loop (fun m af h => ∃ (idx : List Nat) (A : List (ByteArray × ByteArray)) (g8 : MG), CopyOf M1 A idx ∧ idx.Nodup ∧ (∀ j ∈ idx, j < M1.length) ∧ m = M1.length - idx.length ∧ af = [(0, .ref rn 0), (4, .at (.st [.int .i64 k, .int .i64 ar, .str nm, strs vars, strs args, .sl (kids.map GFml.av)])), (6, .ref r6 0), (7, .ref r7 0), (8, .map m8), (28, .ref it 0)] ∧ h = .iter it mb gm.clk (seenOf gm idx) :: .map m8 (kvW AV.str A) g8 :: [.box r7 (.st [.int .i64 k, .int .i64 ar, .str nm, .osl vb vars.length vc, strs args2, nilS]), .row vb (vars.map AV.str), .box r6 zF, TB t, .box rn (nmAV mt n), .map mt (kvW bav (bmap tk)) g0] ++ [.map mb (kvW AV.str M1) gm]) M1.length ⟨[], [], ⟨[], 0⟩, ⟨List.nodup_nil, by simp⟩, List.nodup_nil, by simp, rfl, rfl, rfl⟩ ?_)
     rintro m af h ⟨idx, A, g8, hA, hn1, hn2, rfl, rfl, rfl⟩
     refine AW.seq ?_
     have hkl : (kvW AV.str M1).length = M1.length := by simp [kvW]
     repeat' (first | (refine AW.r 6 ?_; refine AL.next 8 0 idx rfl rfl rfl (by rw [hkl]; exact hn2) rfl (fun hall => ?_) (fun j key v hk1 hk2 => ?_) <;> refine AL.es 1 ?_ <;> refine AL.nil ?_) | refine AW.jt ?_ | refine AW.jf ?_ | refine AW.go ?_ | fail)
     ·refine AW.drop (List.sublist_cons_self _ _) ?_
      rw [hkl] at hall
      exact AW.meet [0, 4, 6, 7, 8] ⟨A, _, hA.1, fun v => by rw [hA.all hM3 hall, hM4], rfl, rfl⟩
     ·obtain ⟨kk, ww, hkw, rfl, rfl⟩ : ∃ kk ww, M1[j]? = some (kk, ww) ∧ key = .str kk ∧ v = .str ww := by
       unfold kvW at hk2
       rw [List.getElem?_map] at hk2
       cases hj : M1[j]? with
       | none => rw [hj] at hk2; cases hk2
       | some p => rw [hj] at hk2; simp only [Option.map_some, Option.some.injEq, Prod.mk.injEq] at hk2; exact ⟨p.1, p.2, rfl, hk2.1.symm, hk2.2.symm⟩
      have hjl := (List.getElem?_eq_some_iff.1 hkw).1
      have hn3 : (idx ++ [j]).Nodup := List.nodup_append.2 ⟨hn1, by simp, by rintro a ha b hb rfl; rw [List.mem_singleton.1 hb] at ha; exact hk1 ha⟩
      have hn4 : ∀ q ∈ idx ++ [j], q < M1.length := by
       intro q hq
       rcases List.mem_append.1 hq with hq | hq
       ·exact hn2 q hq
       ·rw [List.mem_singleton.1 hq]; exact hjl
      have hlen := nodup_bound M1.length _ hn3 hn4
      rw [lA, List.length_singleton] at hlen
      repeat' (first | (refine AW.r 7 ?_; refine AL.d (AOp.entry (i := 8) (j := 0) (k := j) rfl rfl rfl hk2) ?_; refine xN 4 ?_) | (refine xS 8 3 ?_; refine AL.setS 1 9 AV.str ww rfl rfl rfl rfl (by kernel_rfl) ?_; refine AL.nil ?_) | refine AW.go ?_ | fail)
      exact AW.again_keep (M1.length - (idx ++ [j]).length) [0, 4, 6, 7, 8, 28] (by rw [lA, List.length_singleton]; omega) ⟨idx ++ [j], setA A kk ww, _, hA.step hM3 hk1 hkw, hn3, hn4, rfl, rfl, rfl⟩
   ·rintro af ah ⟨A, g8, hA1, hA2, rfl, rfl⟩
    repeat' (first | refine AW.re 9 4 ?_ | refine AW.go ?_ | fail)
    refine AW.prune [0, 4, 6, 7, 8, 38, 39, 40] (AW.loop (fun mz af h => ∃ (i : Nat) (B : List (ByteArray × ByteArray)) (gB : MG) (W : List ByteArray) (tk1 : List ByteArray) (n1 : Nat) (g1 : MG), i ≤ vars.length ∧ mz = vars.length - i ∧ af = [(0, .ref rn 0), (4, .at (.st [.int .i64 k, .int .i64 ar, .str nm, strs vars, strs args, .sl (kids.map GFml.av)])), (6, .ref r6 0), (7, .ref r7 0), (8, .map m8), (38, strs vars), (39, .int .i64 (vars.map AV.str).length), (40, .int .i64 i)] ∧ h = .map m8 (kvW AV.str B) gB :: .box r7 (.st [.int .i64 k, .int .i64 ar, .str nm, .osl vb vars.length vc, strs args2, nilS]) :: .row vb (W.map AV.str ++ (vars.drop i).map AV.str) :: .box r6 zF :: (coreH t rn mt n1 tk1 g1 ++ X) ∧ (W.length = i ∧ tk1 = tk ++ W ∧ frL vars.length tk n = (W ++ (frL (vars.length - i) tk1 n1).1, (frL (vars.length - i) tk1 n1).2) ∧ (B.map (·.1)).Nodup ∧ (∀ v, lookA B v = upV (vars.take i) W σ v) ∧ n1 ≤ n + i * (T + 1))) vars.length ⟨0, A, g8, [], tk, n, g0, Nat.zero_le _, rfl, rfl, rfl, ⟨rfl, by simp, rfl, hA1, hA2, by omega⟩⟩ ?_)
    rintro mz af h ⟨i, B, gB, W, tk1, n1, g1, hi, rfl, rfl, rfl, he⟩
    refine AW.seq ?_
    by_cases hlt : i < vars.length
    ·obtain ⟨hW, htk, he, hB1, hB2, hnn⟩ := he
     obtain ⟨x, hx⟩ := get_lt hlt
     have hx' : (vars.map AV.str)[((i : Nat) : Int).toNat]? = some (.str x) := map_get hx
     rw [drop_cons hx]
     have hi1 : (i + 1) * (T + 1) ≤ vars.length * (T + 1) := Nat.mul_le_mul_right _ hlt
     rw [Nat.succ_mul] at hi1
     have htl : tk1.length ≤ T := by rw [htk, lA, hW]; omega
     have hc := Tri.around (n_fresh t rn mt tk1 n1 g1 (by omega)) [.map m8 (kvW AV.str B) gB, .box r7 (.st [.int .i64 k, .int .i64 ar, .str nm, .osl vb vars.length vc, strs args2, nilS]), .row vb (W.map AV.str ++ (x :: vars.drop (i + 1)).map AV.str), .box r6 zF] X
     have hspec := frS_spec tk1 n1
     rw [show vars.length - i = (vars.length - (i + 1)) + 1 by omega, frL] at he
     generalize hm : frS tk1 n1 = m at *
     generalize hw : wB m = w at *
     have hL : lookA (setA B x w) x = some w := by rw [look_setA, if_pos rfl]
     repeat' (first | refine AW.re 10 1 ?_ | (refine xS 11 1 ?_; refine AL.d (iX hx') ?_; refine xN 3 ?_) | refine AW.jj (fun hb => ?_) (fun hb => ?_) | refine AW.go ?_ | fail)
     all_goals try (exfalso; simp only [dT, dF, lM] at *; omega)
     repeat' (first | (refine xS 12 3 ?_; (refine AL.callQ rfl rfl hc rfl ?_ ?_; rotate_left; rintro _ _ ⟨_, ⟨e, _⟩, _⟩; cases e; rintro _ _ ⟨_, ⟨e, g', rfl⟩, rfl⟩; injection e with e; subst e) <;> refine AL.setS 0 9 AV.str w rfl rfl rfl rfl (by kernel_rfl) ?_ <;> refine AL.nil ?_) | fail)
     repeat' (first | (refine AW.r 13 ?_; refine AL.d (AOp.fr 3) ?_; refine AL.d (AOp.ll 1) ?_; refine AL.es 3 ?_; refine AL.d (AOp.lookS_hit 0 9 (g := AV.str) (ok := false) hL rfl rfl rfl (by kernel_rfl)) ?_; refine AL.d (AOp.index_osl rfl rfl (by omega) (by omega) (by kernel_rfl)) ?_; ((refine AL.store_cell 2 rfl rfl rfl (by simp; omega) rfl rfl (by kernel_rfl) ?_)) <;> refine AL.nil ?_) | refine AW.go ?_ | fail)
     have hrow : (W.map AV.str ++ (x :: vars.drop (i + 1)).map AV.str).set ((i : Nat) : Int).toNat (.str w) = (W ++ [w]).map AV.str ++ (vars.drop (i + 1)).map AV.str := by
      rw [Int.toNat_natCast, List.set_append_right _ _ (by simp; omega)]; simp [hW]
     refine AW.frame_eq rfl (show _ = .map m8 (kvW AV.str (setA B x w)) (gsetA B gB x) :: .box r7 (.st [.int .i64 k, .int .i64 ar, .str nm, .osl vb vars.length vc, strs args2, nilS]) :: .row vb ((W ++ [w]).map AV.str ++ (vars.drop (i + 1)).map AV.str) :: .box r6 zF :: (coreH t rn mt (m + 1) (tk1 ++ [w]) g' ++ X) from by rw [← hrow]; rfl) ?_
     repeat' (first | (refine AW.r 14 ?_; refine AL.d AOp.ad ?_; refine xN 1 ?_) | fail)
     refine AW.again_keep (vars.length - (i + 1)) [0, 4, 6, 7, 8, 38, 39, 40] (by omega) ⟨i + 1, setA B x w, _, W ++ [w], tk1 ++ [w], m + 1, g', hlt, rfl, rfl, rfl, ?_⟩
     refine ⟨by simp [hW], by rw [htk, List.append_assoc], by rw [he]; simp, setA_nodup hB1, fun v => ?_, by rw [Nat.succ_mul]; omega⟩
     rw [look_setA, hB2, List.take_add_one, hx]
     show _ = upV (vars.take i ++ [x]) (W ++ [w]) σ v
     exact (congrFun (upV_snoc x w (vars.take i) W σ (by rw [List.length_take, hW]; omega)) v).symm
    ·obtain ⟨hW, htk, he, hB1, hB2, hnn⟩ := he
     obtain rfl : i = vars.length := by omega
     rw [Nat.sub_self, frL] at he
     simp only [List.append_nil] at he
     rw [List.take_length] at hB2
     rw [he, List.drop_length, List.map_nil, List.append_nil]
     simp only
     rw [← htk]
     repeat' (first | refine AW.re 10 1 ?_ | refine AW.jj (fun hb => ?_) (fun hb => ?_) | refine AW.go ?_ | fail)
     all_goals try (exfalso; simp only [dT, dF, lM] at *; omega)
     refine AW.freeze_box 2 1 (n := vars.length) (c := vc) (.st [.int .i64 k, .int .i64 ar, .str nm, strs W, strs args2, nilS]) rfl rfl (by rw [lM, hW]) (by intro y hy; obtain ⟨z, _, rfl⟩ := List.mem_map.1 hy; rfl) (fun S w h cs hr => relc_set 3 (strs W) rfl h hr) ?_
     repeat' (first | refine AW.re 15 2 ?_ | refine AW.go ?_ | fail)
     refine AW.weak_box 1 (.st [.int .i64 k, .int .i64 ar, .str nm, strs W, strs args2, .slt [] none 0]) rfl (.st (.cons (.refl _) (.cons (.refl _) (.cons (.refl _) (.cons (.refl _) (.cons (.refl _) (.cons wk_nil .nil))))))) ?_
     refine AW.own_nil 6 ?_
     refine AW.perm (b := [.tail none 0 0 6, .box r7 (.st [.int .i64 k, .int .i64 ar, .str nm, strs W, strs args2, .slt [] none 0]), TB t, .box rn (nmAV mt n1), .map mt (kvW bav (bmap tk1)) g1, .map m8 (kvW AV.str B) gB, .box r6 zF] ++ X) (((permAp _ _ _ _ _ _ X)).cons _) ?_
     have hT1 : tk1.length + (bdL kids).length ≤ T := by rw [htk, lA, hW]; omega
     have hT2 : n1 + (bdL kids).length * (T + 1) ≤ 9000000000 := by omega
     have hM2 : ApM (.map m8) [.map m8 (kvW AV.str B) gB] (upV vars W σ) := .inr ⟨m8, B, gB, rfl, rfl, hB1, hB2⟩
     repeat' (first | refine AW.re 16 4 ?_ | refine AW.go ?_ | fail)
     refine AW.prune [0, 2, 4, 6, 7, 59, 60, 61] (AW.loop (fun mz af h => ∃ (i : Nat) (o : List GFml) (tt : Option Nat) (cc : Nat) (tkk : List ByteArray) (nn : Nat) (gg : MG), i ≤ kids.length ∧ mz = kids.length - i ∧ af = [(0, .ref rn 0), (2, .map m8), (4, .at (.st [.int .i64 k, .int .i64 ar, .str nm, strs vars, strs args, .sl (kids.map GFml.av)])), (6, .ref r6 0), (7, .ref r7 0), (59, .sl (kids.map GFml.av)), (60, .int .i64 (kids.map GFml.av).length), (61, .int .i64 i)] ∧ h = [.tail tt (o.map GFml.av).length cc 6, .box r7 (.st [.int .i64 k, .int .i64 ar, .str nm, strs W, strs args2, .slt (o.map GFml.av) tt cc]), TB t, .box rn (nmAV mt nn), .map mt (kvW bav (bmap tkk)) gg, .map m8 (kvW AV.str B) gB, .box r6 zF] ++ X ∧ (apL kids (upV vars W σ) tk1 n1 = (o ++ (apL (kids.drop i) (upV vars W σ) tkk nn).1, (apL (kids.drop i) (upV vars W σ) tkk nn).2) ∧ o.length = i ∧ tkk.length + (bdL (kids.drop i)).length ≤ T ∧ nn + (bdL (kids.drop i)).length * (T + 1) ≤ 9000000000)) kids.length ⟨0, [], none, 0, tk1, n1, g1, Nat.zero_le _, rfl, rfl, rfl, ⟨rfl, rfl, hT1, hT2⟩⟩ ?_)
     rintro mz af h ⟨i, o, tt, cc, tkk, nn, gg, hi, rfl, rfl, rfl, he⟩
     refine AW.seq ?_
     by_cases hlt : i < kids.length
     ·obtain ⟨he, hol, hb1, hb2⟩ := he
      obtain ⟨x, hx⟩ := get_lt hlt
      have hx' : (kids.map GFml.av)[((i : Nat) : Int).toNat]? = some (x.st) := GFml.get hx
      have hxm := lG hx
      have hnx := ndFs_mem hxm
      rw [drop_cons hx, bdL, lA] at hb1 hb2
      rw [Nat.add_mul] at hb2
      rw [drop_cons hx, apL] at he
      have hbd := ap_bd T x (upV vars W σ) tkk nn (by omega)
      have htk := ap_tk x (upV vars W σ) tkk nn
      have hc := Tri.around (ih (ndF x) (by omega) x (.map m8) [.map m8 (kvW AV.str B) gB] (upV vars W σ) tkk nn gg (Nat.le_refl _) (q7 x hxm) hM2 (by omega) (by omega)) [.tail tt (o.map GFml.av).length cc 6, .box r7 (.st [.int .i64 k, .int .i64 ar, .str nm, strs W, strs args2, .slt (o.map GFml.av) tt cc])] []
      generalize hap : apF x (upV vars W σ) tkk nn = R at *
      obtain ⟨y, tk2, n2⟩ := R
      simp only at htk hbd he hc
      have htl : tk2.length = tkk.length + (bdF x).length := by rw [htk, lA, hbd.2.2]
      have hol2 : o.length ≤ 1353245080300 := by omega
      have hm : (o ++ [y]).map GFml.av = o.map GFml.av ++ [y.st] := by simp [GFml.av_eq]
      repeat' (first | refine AW.re 17 1 ?_ | refine AW.jj (fun hb => ?_) (fun hb => ?_) | refine AW.go ?_ | fail)
      all_goals try (exfalso; simp only [dT, dF, lM] at *; omega)
      repeat' (first | (refine AW.r 18 ?_; refine AL.d (iX hx') ?_; refine AL.d AOp.la ?_; refine AL.alloc_z (t := 25) zF (by kernel_rfl) rfl rfl fun r14 => ?_; refine AL.sl 0 ?_; refine AL.nil ?_) | fail)
      repeat' (first | fail)
      refine AW.explore [false, true, true, true, true, true, true] [1, 5, 6, 7, 9] rfl (by kernel_rfl) (by kernel_rfl) (by kernel_rfl) (by kernel_rfl) ?_
      refine AQE.op rfl (AOp.fr 5) rfl rfl ?_
      refine AQE.hole rfl rfl ?_
      refine AQE.ev rfl rfl rfl rfl ?_
      refine AQE.op rfl (AOp.lw 0) rfl rfl ?_
      refine AQE.ev rfl rfl rfl rfl ?_
      refine AQE.hole rfl rfl ?_
      refine AQE.hole rfl rfl ?_
      refine AQE.hole rfl rfl ?_
      refine AQE.op rfl (AOp.fr 5) rfl rfl ?_
      refine AQE.hole rfl rfl ?_
      refine AQE.nil ?_
      repeat' (first | refine AX.two (n := 4) 1 5 rfl ?_ ?_ | refine AX.two (n := 3) 1 6 rfl ?_ ?_ | refine AX.one (n := 3) 5 rfl ?_ | refine AX.one (n := 2) 6 rfl ?_ | refine AX.one (n := 2) 1 rfl ?_ | refine AX.one (n := 1) 7 rfl ?_ | refine AX.one (n := 0) 9 rfl ?_ | (refine AXS.det (i := 1) rfl rfl rfl (AOp.ll 1) ?_; dsimp only [sA, sB]) | (refine AXS.step (i := 5) rfl rfl rfl (AOp.call rfl rfl hc) ?_ (by rintro _ _ ⟨_, ⟨e, _⟩, _⟩; cases e); rintro _ _ ⟨_, ⟨e, g', rfl⟩, rfl⟩; injection e with e; subst e; dsimp only [sA, sB]) | (refine AXS.det (i := 6) rfl rfl rfl (AOp.lit (e := 25) (sz := 6) (by kernel_rfl) rfl rfl rfl (P_one rfl) (by decide)) ?_; dsimp only [sA, sB]) | (refine AXS.at (q := 7) rfl rfl ?_; refine AXO.append (i := 0) (xs := o.map GFml.av) (e := 25) (sz := 6) (bytes := 104) rfl rfl rfl rfl (by kernel_rfl) (by kernel_rfl) (P_map GFml.size_av) (P_one rfl) rfl (by simp only [lM]; simp; omega) (by simp only [lM]; simp; omega) rfl fun b' c' => ?_; dsimp only [sA, sB]) | (refine AXS.at (q := 9) rfl rfl ?_; refine AXO.sl 1 (fun _ => ?_); dsimp only [sA, sB]) | fail)
      all_goals
       refine AX.done [(0, .ref rn 0), (2, .map m8), (4, .at (.st [.int .i64 k, .int .i64 ar, .str nm, strs vars, strs args, .sl (kids.map GFml.av)])), (6, .ref r6 0), (7, .ref r7 0), (59, .sl (kids.map GFml.av)), (60, .int .i64 (kids.map GFml.av).length), (61, .int .i64 i)] rfl ?_
       refine AW.drop (ah' := [.tail b' ((o ++ [y]).map GFml.av).length c' 6, .box r7 (.st [.int .i64 k, .int .i64 ar, .str nm, strs W, strs args2, .slt ((o ++ [y]).map GFml.av) b' c']), TB t, .box rn (nmAV mt n2), .map mt (kvW bav (bmap tk2)) g', .map m8 (kvW AV.str B) gB, .box r6 zF] ++ X) (by rw [hm]; exact List.Sublist.cons_cons _ <| List.Sublist.cons_cons _ <| List.Sublist.cons_cons _ <| List.Sublist.cons_cons _ <| List.Sublist.cons_cons _ <| List.Sublist.cons_cons _ <| List.sublist_cons_self _ _) ?_
       repeat' (first | (refine AW.r 20 ?_; refine AL.d AOp.ad ?_; refine xN 1 ?_) | fail)
       refine AW.again_keep (kids.length - (i + 1)) [0, 2, 4, 6, 7, 59, 60, 61] (by omega) ⟨i + 1, o ++ [y], b', c', tk2, n2, g', hlt, rfl, rfl, rfl, ?_⟩
       refine ⟨by rw [he]; simp, by simp; omega, by omega, by omega⟩
     ·obtain ⟨he, hol, _, _⟩ := he
      rw [List.drop_eq_nil_of_le (by omega), apL] at he
      simp only [List.append_nil] at he
      rw [he]
      refine AW.weak_box 1 (.st [.int .i64 k, .int .i64 ar, .str nm, strs W, strs args2, .sl (o.map GFml.av)]) rfl (.st (.cons (.refl _) (.cons (.refl _) (.cons (.refl _) (.cons (.refl _) (.cons (.refl _) (.cons .slt .nil))))))) ?_
      repeat' (first | refine AW.re 17 1 ?_ | refine AW.jj (fun hb => ?_) (fun hb => ?_) | refine AW.go ?_ | fail)
      all_goals try (exfalso; simp only [dT, dF, lM] at *; omega)
      repeat' (first | (refine AW.r 21 ?_; refine AL.d (AOp.lw 1) ?_; refine AL.sl 6 ?_; refine AL.nil ?_) | fail)
      exact AW.retc (.cell 6 rfl rfl (by kernel_rfl) .nil) (.cons _ (.cons _ (.cons_cons _ (.cons_cons _ (.cons_cons _ (.cons _ (.cons _ (List.Sublist.refl _)))))))) ⟨rfl, gg, rfl⟩
theorem permPre {P : Program} {f : FuncId} {args : List AV} {ah ah' : AH} {Φ : AEnd → AH → Prop} (h : Tri P f args ah Φ) (p : ah'.Perm ah) : Tri P f args ah' Φ :=
 ⟨h.1, fun Fr w vs hst hrel => (h.2 Fr w vs (hst.perm p) (RelVs.mv (Mv.same w fun b o hs => hs.elim .inl fun h' => .inr ((reg_perm p).2 h')) _ _ hrel)).mono fun e w' he => he.perm fun b o => reg_perm p.symm⟩
mutual
theorem bdF_len : ∀ f : GFml, shsF f = true → (bdF f).length ≤ 24 * ndF f
 | ⟨k, ar, nm, vars, args, kids⟩, h => by
  rw [shsF, bA] at h
  have h1 := shaped_vars h.2
  have h2 := bdL_len kids h.1
  simp only at h1
  rw [bdF, ndF, lA]; omega
theorem bdL_len : ∀ l : List GFml, shsFs l = true → (bdL l).length ≤ 24 * ndFs l
 | [], h => by rw [bdL]; exact Nat.zero_le _
 | x :: l, h => by
  rw [shsFs, bA] at h
  have h1 := bdF_len x h.1
  have h2 := bdL_len l h.2
  rw [bdL, ndFs, lA]; omega
end
def none_ : Sb := fun _ => none
def apA (f : GFml) : GFml := (apF f none_ (vrF f []) 0).1
def apaP (f : GFml) : GFml × Int := bif validF f then fitF (apA f) else (noF, 1)
mutual
theorem ap_ok : ∀ (f : GFml) (σ : Sb) (tk : List ByteArray) (n T : Nat), f.Ok → tk.length + (bdF f).length ≤ T → n + (bdF f).length * (T + 1) ≤ 9000000000 → (∀ v w, σ v = some w → strOk w) → (apF f σ tk n).1.Ok
 | ⟨k, ar, nm, vars, args, kids⟩, σ, tk, n, T, ho, hT1, hT2, hσ => by
  obtain ⟨⟨h1, h2, h3, h4, h5⟩, h6, h7⟩ := ho
  rw [bdF, lA] at hT1 hT2
  rw [Nat.add_mul] at hT2
  obtain ⟨k1, k2, k3⟩ := frL_bd T vars.length tk n (by omega)
  have hnew : ∀ x ∈ (frL vars.length tk n).1, strOk x := by
   intro x hx
   obtain ⟨m, hm, rfl⟩ := k3 x hx
   exact wB_ok m (by omega)
  rw [apF]
  refine .mk ⟨h1, h2, h3, ⟨by simp only; rw [frL_len]; exact h4.1, hnew⟩, ⟨by simp only [lM]; exact h5.1, ?_⟩⟩ (by simp only; rw [ap_lenL]; exact h6) ?_
  ·intro x hx
   obtain ⟨y, hy, rfl⟩ := List.mem_map.1 hx
   rw [rnS]
   cases hs : σ y with
   | none => exact h5.2 y hy
   | some w => exact hσ y w hs
  ·exact ap_okL kids _ _ _ T h7 (by rw [lA, frL_len]; omega) (by omega) (up_ok vars _ σ hσ hnew)
theorem ap_okL : ∀ (l : List GFml) (σ : Sb) (tk : List ByteArray) (n T : Nat), (∀ x ∈ l, x.Ok) → tk.length + (bdL l).length ≤ T → n + (bdL l).length * (T + 1) ≤ 9000000000 → (∀ v w, σ v = some w → strOk w) → ∀ y ∈ (apL l σ tk n).1, y.Ok
 | [], σ, tk, n, T, ho, hT1, hT2, hσ, y, hy => by rw [apL] at hy; cases hy
 | x :: l, σ, tk, n, T, ho, hT1, hT2, hσ, y, hy => by
  rw [bdL, lA] at hT1 hT2
  rw [Nat.add_mul] at hT2
  have hb := ap_bd T x σ tk n (by omega)
  rw [apL] at hy
  rcases List.mem_cons.1 hy with rfl | hy
  ·exact ap_ok x σ tk n T (ho x (by simp)) (by omega) (by omega) hσ
  ·exact ap_okL l σ _ _ T (fun z hz => ho z (by simp [hz])) (by rw [ap_tk, lA]; omega) (by omega) hσ y hy
theorem up_ok : ∀ (vars r : List ByteArray) (σ : Sb), (∀ v w, σ v = some w → strOk w) → (∀ x ∈ r, strOk x) → ∀ v w, upV vars r σ v = some w → strOk w
 | [], r, σ, h, hr => by rw [upV]; exact h; all_goals intros; simp_all
 | x :: l, [], σ, h, hr => by rw [upV]; exact h; all_goals intros; simp_all
 | x :: l, y :: r, σ, h, hr => by
  rw [upV]
  refine up_ok l r _ (fun v w hv => ?_) (fun z hz => hr z (by simp [hz]))
  simp only [up1] at hv
  split at hv
  ·rw [← Option.some.inj hv]; exact hr y (by simp)
  ·exact h v w hv
end
theorem perm4 {α : Type} (m b r t : α) : [m, b, r, t].Perm [t, b, m, r] := by
 refine (List.Perm.cons _ (List.perm_append_comm (l₁ := [b, r]) (l₂ := [t]))).trans ?_
 refine (List.Perm.swap t m _).trans (.cons _ (.swap b m _))
theorem n_Apart (t : TypeId) (f : GFml) (ho : f.Ok) (hn : ndF f ≤ 2000) : Tri Tryz.prog 14 [f.st] [TB t] (D (.tup [(apaP f).1.st, .int .i64 (apaP f).2]) [TB t]) := by
 have hv := f_Valid f ho
 unfold apaP
 cases hV : validF f with
 | false =>
  rw [hV] at hv
  obtain ⟨k, ar, nm, vars, args, kids⟩ := f
  refine Tri.enter 16 Tryz.func14 rfl rfl rfl rfl fun Fr w0 => ?_
  repeat' (first | (refine AW.r 0 ?_; (refine AL.d (AOp.box_ro (v := .st [.int .i64 k, .int .i64 ar, .str nm, strs vars, strs args, .sl (kids.map GFml.av)]) rfl rfl) ?_) <;> refine AL.alloc_z (t := 25) zF (by kernel_rfl) rfl rfl fun r => ?_ <;> refine AL.es 1 ?_ <;> refine AL.nil ?_) | (refine AW.r 1 ?_; refine AL.d AOp.la ?_; refine AL.d (AOp.call rfl rfl (hv.pure _)) ?_; refine xN 1 ?_) | (refine AW.r 2 ?_; refine AL.d (AOp.build (pl := [(0, 1), (1, 1), (2, 1), (3, 1), (4, 1), (5, 1)]) (z := .st [.int .i64 0, .int .i64 0, .str ⟨#[]⟩, .sl [], .sl [], .sl []]) (by kernel_rfl) rfl rfl rfl) ?_ <;> refine AL.sl 0 ?_ <;> refine AL.es 1 ?_ <;> refine AL.nil ?_) | refine AW.jt ?_ | fail)
  exact AW.retc (.cell 0 rfl rfl (by kernel_rfl) (.tmp rfl .nil)) (List.sublist_cons_self _ _) ⟨rfl, rfl⟩
 | true =>
  rw [hV] at hv
  have hsh := validF_shs hV
  have l1 := bdF_len f hsh
  have l2 := vrF_len f [] hsh
  rw [List.length_nil, Nat.zero_add] at l2
  have hmul : (bdF f).length * ((vrF f []).length + (bdF f).length + 1) ≤ 48000 * 144001 := Nat.mul_le_mul (by omega) (by omega)
  have hT2 : 0 + (bdF f).length * ((vrF f []).length + (bdF f).length + 1) ≤ 9000000000 := by omega
  have hN := n_newNamer [f] (by simp) (by intro x hx; rw [List.mem_singleton.1 hx]; exact ho)
  have hok : (apA f).Ok := ap_ok f none_ (vrF f []) 0 _ ho (Nat.le_refl _) hT2 (fun v w h => by cases h)
  have hF := n_fit (apA f) hok
  have hA := fun rn mt g r => permPre (Tri.around (n_apart t rn mt _ _ f nilM [] none_ (vrF f []) 0 g (Nat.le_refl _) ho (.inl ⟨rfl, rfl, rfl⟩) (Nat.le_refl _) hT2) [] [.box r zF]) (show List.Perm [Own.map mt (kvW bav (bmap (vrF f []))) g, .box rn (nmAV mt 0), .box r zF, TB t] _ from perm4 _ _ _ _)
  have e1 : [f].map GFml.av = [f.st] := by rw [List.map_cons, List.map_nil, GFml.av_eq]
  have e2 : vrL [f] [] = vrF f [] := by rw [vrL, vrL]
  rw [e1, e2] at hN
  clear l1 l2 hmul hT2 hok
  change ∀ rn mt g r, Tri _ _ _ _ (fun x h => ∃ h1, (x = .ret (apA f).st ∧ ∃ g', h1 = coreH t rn mt _ _ g' ++ []) ∧ h = [] ++ (h1 ++ [Own.box r zF])) at hA
  generalize fitF (apA f) = FF at *
  obtain ⟨G, E⟩ := FF
  generalize apA f = A at *
  obtain ⟨k, ar, nm, vars, args, kids⟩ := f
  refine Tri.enter 16 Tryz.func14 rfl rfl rfl rfl fun Fr w0 => ?_
  repeat' (first | (refine AW.r 0 ?_; (refine AL.d (AOp.box_ro (v := .st [.int .i64 k, .int .i64 ar, .str nm, strs vars, strs args, .sl (kids.map GFml.av)]) rfl rfl) ?_) <;> refine AL.alloc_z (t := 25) zF (by kernel_rfl) rfl rfl fun r => ?_ <;> refine AL.es 1 ?_ <;> refine AL.nil ?_) | (refine AW.r 1 ?_; refine AL.d AOp.la ?_; refine AL.d (AOp.call rfl rfl (hv.pure _)) ?_; refine xN 1 ?_) | refine AW.jf ?_ | refine AW.go ?_ | fail)
  repeat' (first | fail)
  refine AW.explore [true, true] [2, 4, 5, 6, 7, 8, 9] rfl (by kernel_rfl) (by kernel_rfl) (by kernel_rfl) (by kernel_rfl) ?_
  refine AQE.op rfl (AOp.la) rfl rfl ?_
  refine AQE.op rfl (AOp.lit (e := 25) (sz := 6) (by kernel_rfl) rfl rfl rfl (P_one rfl) (by decide)) rfl rfl ?_
  refine AQE.hole rfl rfl ?_
  refine AQE.op rfl (AOp.la) rfl rfl ?_
  refine AQE.hole rfl rfl ?_
  refine AQE.hole rfl rfl ?_
  refine AQE.hole rfl rfl ?_
  refine AQE.hole rfl rfl ?_
  refine AQE.hole rfl rfl ?_
  refine AQE.hole rfl rfl ?_
  refine AQE.nil ?_
  repeat' (first | refine AX.one (n := 6) 2 rfl ?_ | refine AX.one (n := 5) 4 rfl ?_ | refine AX.one (n := 4) 5 rfl ?_ | refine AX.two (n := 3) 6 7 rfl ?_ ?_ | refine AX.one (n := 2) 6 rfl ?_ | refine AX.one (n := 2) 7 rfl ?_ | refine AX.one (n := 1) 8 rfl ?_ | refine AX.one (n := 0) 9 rfl ?_ | (refine AXS.step (i := 2) rfl rfl rfl (AOp.call rfl rfl (hN.pureE _)) ?_ (by rintro _ _ ⟨_, ⟨_, _, _, e, _⟩, _⟩; cases e); rintro _ _ ⟨_, ⟨rn, mt, g, e, rfl⟩, rfl⟩; injection e with e; subst e; dsimp only [sA, sB]) | (refine AXS.step (i := 4) rfl rfl rfl (AOp.call rfl rfl (hA _ _ _ _)) ?_ (by rintro _ _ ⟨_, ⟨e, _⟩, _⟩; cases e); rintro _ _ ⟨_, ⟨e, g', rfl⟩, rfl⟩; injection e with e; subst e; dsimp only [sA, sB]) | (refine AXS.det (i := 5) rfl rfl rfl (AOp.call rfl rfl (hF.pure _)) ?_; dsimp only [sA, sB]) | (refine AXS.det (i := 6) rfl rfl rfl (AOp.ev rfl) ?_; dsimp only [sA, sB]) | (refine AXS.det (i := 7) rfl rfl rfl (AOp.ev rfl) ?_; dsimp only [sA, sB]) | (refine AXS.det (i := 9) rfl rfl rfl (AOp.ev rfl) ?_; dsimp only [sA, sB]) | (refine AXS.at (q := 8) rfl rfl ?_; refine AXO.store_leaf 3 rfl rfl rfl rfl rfl (by kernel_rfl) (fun _ => ?_); dsimp only [sA, sB]) | fail)
  all_goals
   refine AX.done [(2, .ref r 0), (3, .int .i64 E)] rfl ?_
   exact AW.retc (.cell 3 rfl rfl (by kernel_rfl) (.tmp rfl .nil)) (.cons_cons _ (.cons _ (.cons _ (.cons _ .slnil)))) ⟨rfl, rfl⟩
def plN (l : List ByteArray) (s : ByteArray) : Nat → Int
 | 0 => -1
 | i + 1 => if l[i]? = some s then (i : Int) else plN l s i
def plc (l : List ByteArray) (s : ByteArray) : Int := plN l s l.length
def lessB (s t : ByteArray) : Bool := Op.bytesLess s.toList t.toList
def risP : List ByteArray → ByteArray → List ByteArray
 | [], s => [s]
 | x :: l, s => if lessB x s = true then x :: risP l s else if x = s then x :: l else s :: x :: l
theorem risP_len : ∀ (l : List ByteArray) (s : ByteArray), (risP l s).length ≤ l.length + 1
 | [], s => by simp [risP]
 | x :: l, s => by
  have := risP_len l s
  rw [risP]; split
  ·simp; omega
  ·split <;> simp
theorem risP_mem : ∀ (l : List ByteArray) (s x : ByteArray), x ∈ risP l s ↔ x = s ∨ x ∈ l
 | [], s, x => by simp [risP]
 | y :: l, s, x => by
  have := risP_mem l s x
  rw [risP]; split
  ·simp only [List.mem_cons, this]; constructor
   ·rintro (h | h | h) <;> simp [h]
   ·rintro (h | h | h) <;> simp [h]
  ·split
   ·rename_i h; subst h; simp
   ·simp
theorem str_sz (l : List ByteArray) : ∀ x ∈ l.map AV.str, x.size = 1 := all_map fun _ => rfl
theorem ref_sorted (l : List ByteArray) (s : ByteArray) (hl : l.length ≤ 1000000) : Tri Tryz.prog 61 [strs l, .str s] [] (D (strs (risP l s)) []) := by
 refine Tri.enter 45 Tryz.func61 rfl rfl rfl rfl fun Fr w0 => ?_
 repeat' (first | refine AW.re 0 1 ?_ | refine AW.re 1 1 ?_ | refine AW.go ?_ | fail)
 refine AW.prune [0, 1, 5] (AW.loop (fun mz af h => ∃ (i : Nat), i ≤ l.length ∧ mz = l.length - i ∧ af = [(0, strs l), (1, .str s), (5, .int .i64 i)] ∧ h = [] ∧ risP l s = l.take i ++ risP (l.drop i) s) l.length ⟨0, Nat.zero_le _, rfl, rfl, rfl, rfl⟩ ?_)
 rintro mz af h ⟨i, hi, rfl, rfl, rfl, he⟩
 refine AW.seq ?_
 by_cases hlt : i < l.length
 ·obtain ⟨x, hx⟩ := get_lt hlt
  have hx' : (l.map AV.str)[((i : Nat) : Int).toNat]? = some (.str x) := map_get hx
  have htk : l.take (i + 1) = l.take i ++ [x] := by rw [List.take_add_one, hx]; rfl
  rw [drop_cons hx, risP] at he
  change risP l s = l.take i ++ if Op.bytesLess x.toList s.toList = true then x :: risP (l.drop (i + 1)) s else if x = s then x :: l.drop (i + 1) else s :: x :: l.drop (i + 1) at he
  cases hlb : Op.bytesLess x.toList s.toList with
  | true =>
   rw [hlb] at he
   repeat' (first | (refine xS 2 5 ?_; ((refine AL.gx (fun hb => ?_) (fun hb => ?_) <;> refine AL.es 2 ?_)) <;> (first | (refine AL.gd ?_; refine AL.d (iX hx') ?_) | refine AL.gs ?_) <;> refine AL.es 4 ?_ <;> refine AL.nil ?_) | (refine xS 3 1 ?_; refine AL.d AOp.ad ?_; refine xN 1 ?_) | refine AW.jf ?_ | refine AW.jj (fun hb => ?_) (fun hb => ?_) | refine AW.go ?_ | fail)
   all_goals try (exfalso; simp only [dT, dF, lM] at *; omega)
   all_goals try (rw [hlb] at hb; cases hb; done)
   refine AW.again_keep (l.length - (i + 1)) [0, 1, 5] (by omega) ⟨i + 1, hlt, rfl, rfl, rfl, ?_⟩
   rw [he, if_pos rfl, htk]; simp
  | false =>
   rw [hlb] at he
   repeat' (first | (refine xS 2 5 ?_; ((refine AL.gx (fun hb => ?_) (fun hb => ?_) <;> refine AL.es 2 ?_)) <;> (first | (refine AL.gd ?_; refine AL.d (iX hx') ?_) | refine AL.gs ?_) <;> refine AL.es 4 ?_ <;> refine AL.nil ?_) | (refine xS 4 5 ?_; ((refine AL.gx (fun hb => ?_) (fun hb => ?_) <;> refine AL.es 2 ?_)) <;> (first | (refine AL.gd ?_; refine AL.d (iX hx') ?_) | refine AL.gs ?_) <;> refine AL.es 4 ?_ <;> refine AL.nil ?_) | refine AW.re 5 2 ?_ | refine AW.jf ?_ | refine AW.jj (fun hb => ?_) (fun hb => ?_) | refine AW.go ?_ | fail)
   all_goals try (exfalso; simp only [dT, dF, lM] at *; omega)
   all_goals try (rw [hlb] at hb; cases hb; done)
   ·rw [toList_beq, dT] at hb
    rw [if_neg (by simp), if_pos hb, ← drop_cons hx, List.take_append_drop] at he
    exact AW.retv rfl ⟨by rw [he], rfl⟩
   ·rw [toList_beq, dF] at hb
    rw [if_neg (by simp), if_neg hb] at he
    repeat' (first | (refine AW.ex 6 [] [0, 4, 7, 11, 12] ?_; refine AQE.hl ?_; refine AQE.e ?_; refine AQE.e ?_; ((refine AQE.p rfl (AOp.cut (sz := 1) rfl rfl (by kernel_rfl) (str_sz _) bndIs.none (bndIs.some (n := i) rfl (by omega)) (by omega) (by simp; omega)) ?_)) <;> refine AQE.hl ?_ <;> refine AQE.e ?_ <;> refine AQE.p rfl (AOp.lit (e := 9) (sz := 1) (by kernel_rfl) rfl rfl rfl (P_one rfl) (by decide)) ?_ <;> refine AQE.hl ?_ <;> refine AQE.e ?_ <;> refine AQE.e ?_ <;> ((refine AQE.p rfl (AOp.cut (sz := 1) rfl rfl (by kernel_rfl) (str_sz _) (bndIs.some (n := i) rfl (by omega)) bndIs.none (by simp; omega) (by omega)) ?_)) <;> refine AQE.hl ?_ <;> refine AQE.hl ?_ <;> refine AQE.nil ?_ <;> refine AX.o (n := 4) 0 ?_ <;> (refine AXO.lit_own (e := 9) (sz := 1) (by kernel_rfl) rfl rfl rfl P_nil (by decide) fun b0 => ?_) <;> try dsimp only [sA, sB, sC, sD] <;> refine AX.o (n := 3) 4 ?_ <;> refine AXO.append (i := 0) (e := 9) (sz := 1) (bytes := 16) rfl rfl rfl rfl (by kernel_rfl) (by kernel_rfl) (by repeat' (exact P_nil)) (by repeat' (first | refine P_take ?_ | exact P_map fun _ => rfl)) (ok_all (by repeat' (first | refine P_take ?_ | exact P_map fun _ => rfl))) (by (try simp only [lA, lM, List.length_take, List.length_drop, List.length_cons, List.length_nil, List.length_replicate]); omega) (by (try simp only [lA, lM, List.length_take, List.length_drop, List.length_cons, List.length_nil, List.length_replicate]); omega) rfl fun b' c' => ?_ <;> try dsimp only [sA, sB, sC, sD] <;> refine AX.o (n := 2) 7 ?_ <;> refine AXO.append (i := 0) (e := 9) (sz := 1) (bytes := 16) rfl rfl rfl rfl (by kernel_rfl) (by kernel_rfl) (by repeat' (first | exact P_nil | refine P_app ?_ ?_ | refine P_take ?_ | exact P_map fun _ => rfl)) (by repeat' (exact P_one rfl)) (ok_all (by repeat' (exact P_one rfl))) (by (try simp only [lA, lM, List.length_take, List.length_drop, List.length_cons, List.length_nil, List.length_replicate]); omega) (by (try simp only [lA, lM, List.length_take, List.length_drop, List.length_cons, List.length_nil, List.length_replicate]); omega) rfl fun b' c' => ?_ <;> try dsimp only [sA, sB, sC, sD] <;> refine AX.o (n := 1) 11 ?_ <;> refine AXO.append (i := 0) (e := 9) (sz := 1) (bytes := 16) rfl rfl rfl rfl (by kernel_rfl) (by kernel_rfl) (by repeat' (first | exact P_nil | refine P_app ?_ ?_ | refine P_take ?_ | exact P_map fun _ => rfl | exact P_one rfl)) (by repeat' (first | refine P_take ?_ | refine P_drop ?_ | exact P_map fun _ => rfl)) (ok_all (by repeat' (first | refine P_take ?_ | refine P_drop ?_ | exact P_map fun _ => rfl))) (by (try simp only [lA, lM, List.length_take, List.length_drop, List.length_cons, List.length_nil, List.length_replicate]); omega) (by (try simp only [lA, lM, List.length_take, List.length_drop, List.length_cons, List.length_nil, List.length_replicate]); omega) rfl fun b' c' => ?_ <;> try dsimp only [sA, sB, sC, sD] <;> refine AX.o (n := 0) 12 ?_ <;> refine AXO.e ?_ <;> try dsimp only [sA, sB, sC, sD] <;> refine AX.done_keep [0, 1, 4, 5, 6, 7, 8, 9, 10, 11, 12, 13, 14, 15, 16, 17, 18, 19, 20, 21, 22, 23, 24, 25, 26, 27, 28, 29, 30, 31, 32] ?_) | fail)
    refine AW.as_sl 4 rfl ?_
    refine AW.ret_drop rfl (List.nil_sublist _) ⟨?_, rfl⟩
    rw [he]
    show AEnd.ret (AV.sl _) = AEnd.ret (AV.sl _)
    congr 2
    rw [← drop_cons hx, List.take_of_length_le (show (l.map AV.str).length ≤ (l.map AV.str).length from Nat.le_refl _)]
    simp [List.map_take, List.map_drop]
 ·rw [List.drop_eq_nil_of_le (by omega), risP] at he
  repeat' (first | (refine xS 2 5 ?_; ((refine AL.gx (fun hb => ?_) (fun hb => ?_) <;> refine AL.es 2 ?_)) <;> (first | (refine AL.gd ?_; (exfalso; simp only [dT, dF, lM, bne_iff_ne, ne_eq, bne_eq_false_iff_eq, beq_iff_eq, beq_eq_false_iff_ne] at *; omega)) | refine AL.gs ?_) <;> refine AL.es 4 ?_ <;> refine AL.nil ?_) | (refine xS 4 5 ?_; ((refine AL.gx (fun hb => ?_) (fun hb => ?_) <;> refine AL.es 2 ?_)) <;> (first | (refine AL.gd ?_; (exfalso; simp only [dT, dF, lM, bne_iff_ne, ne_eq, bne_eq_false_iff_eq, beq_iff_eq, beq_eq_false_iff_ne] at *; omega)) | refine AL.gs ?_) <;> refine AL.es 4 ?_ <;> refine AL.nil ?_) | refine AW.jf ?_ | refine AW.go ?_ | fail)
  all_goals try (exfalso; simp only [dT, dF, lM] at *; omega)
  repeat' (first | (refine AW.ex 6 [] [0, 4, 7, 11, 12] ?_; refine AQE.hl ?_; refine AQE.e ?_; refine AQE.e ?_; ((refine AQE.p rfl (AOp.cut (sz := 1) rfl rfl (by kernel_rfl) (str_sz _) bndIs.none (bndIs.some (n := i) rfl (by omega)) (by omega) (by simp; omega)) ?_)) <;> refine AQE.hl ?_ <;> refine AQE.e ?_ <;> refine AQE.p rfl (AOp.lit (e := 9) (sz := 1) (by kernel_rfl) rfl rfl rfl (P_one rfl) (by decide)) ?_ <;> refine AQE.hl ?_ <;> refine AQE.e ?_ <;> refine AQE.e ?_ <;> ((refine AQE.p rfl (AOp.cut (sz := 1) rfl rfl (by kernel_rfl) (str_sz _) (bndIs.some (n := i) rfl (by omega)) bndIs.none (by simp; omega) (by omega)) ?_)) <;> refine AQE.hl ?_ <;> refine AQE.hl ?_ <;> refine AQE.nil ?_ <;> refine AX.o (n := 4) 0 ?_ <;> (refine AXO.lit_own (e := 9) (sz := 1) (by kernel_rfl) rfl rfl rfl P_nil (by decide) fun b0 => ?_) <;> try dsimp only [sA, sB, sC, sD] <;> refine AX.o (n := 3) 4 ?_ <;> refine AXO.append (i := 0) (e := 9) (sz := 1) (bytes := 16) rfl rfl rfl rfl (by kernel_rfl) (by kernel_rfl) (by repeat' (exact P_nil)) (by repeat' (first | refine P_take ?_ | exact P_map fun _ => rfl)) (ok_all (by repeat' (first | refine P_take ?_ | exact P_map fun _ => rfl))) (by (try simp only [lA, lM, List.length_take, List.length_drop, List.length_cons, List.length_nil, List.length_replicate]); omega) (by (try simp only [lA, lM, List.length_take, List.length_drop, List.length_cons, List.length_nil, List.length_replicate]); omega) rfl fun b' c' => ?_ <;> try dsimp only [sA, sB, sC, sD] <;> refine AX.o (n := 2) 7 ?_ <;> refine AXO.append (i := 0) (e := 9) (sz := 1) (bytes := 16) rfl rfl rfl rfl (by kernel_rfl) (by kernel_rfl) (by repeat' (first | exact P_nil | refine P_app ?_ ?_ | refine P_take ?_ | exact P_map fun _ => rfl)) (by repeat' (exact P_one rfl)) (ok_all (by repeat' (exact P_one rfl))) (by (try simp only [lA, lM, List.length_take, List.length_drop, List.length_cons, List.length_nil, List.length_replicate]); omega) (by (try simp only [lA, lM, List.length_take, List.length_drop, List.length_cons, List.length_nil, List.length_replicate]); omega) rfl fun b' c' => ?_ <;> try dsimp only [sA, sB, sC, sD] <;> refine AX.o (n := 1) 11 ?_ <;> refine AXO.append (i := 0) (e := 9) (sz := 1) (bytes := 16) rfl rfl rfl rfl (by kernel_rfl) (by kernel_rfl) (by repeat' (first | exact P_nil | refine P_app ?_ ?_ | refine P_take ?_ | exact P_map fun _ => rfl | exact P_one rfl)) (by repeat' (first | refine P_take ?_ | refine P_drop ?_ | exact P_map fun _ => rfl)) (ok_all (by repeat' (first | refine P_take ?_ | refine P_drop ?_ | exact P_map fun _ => rfl))) (by (try simp only [lA, lM, List.length_take, List.length_drop, List.length_cons, List.length_nil, List.length_replicate]); omega) (by (try simp only [lA, lM, List.length_take, List.length_drop, List.length_cons, List.length_nil, List.length_replicate]); omega) rfl fun b' c' => ?_ <;> try dsimp only [sA, sB, sC, sD] <;> refine AX.o (n := 0) 12 ?_ <;> refine AXO.e ?_ <;> try dsimp only [sA, sB, sC, sD] <;> refine AX.done_keep [0, 1, 4, 5, 6, 7, 8, 9, 10, 11, 12, 13, 14, 15, 16, 17, 18, 19, 20, 21, 22, 23, 24, 25, 26, 27, 28, 29, 30, 31, 32] ?_) | fail)
  refine AW.as_sl 4 rfl ?_
  refine AW.ret_drop rfl (List.nil_sublist _) ⟨?_, rfl⟩
  rw [he]
  show AEnd.ret (AV.sl _) = AEnd.ret (AV.sl _)
  congr 2
  have : i = l.length := by omega
  subst this
  simp [List.take_of_length_le]
mutual
def frF : GFml → List ByteArray
 | ⟨_, _, _, vars, args, kids⟩ => frA args (frLs vars kids [])
def frLs : List ByteArray → List GFml → List ByteArray → List ByteArray
 | _, [], out => out
 | vars, x :: l, out => frLs vars l (frV vars (frF x) out)
def frV : List ByteArray → List ByteArray → List ByteArray → List ByteArray
 | _, [], out => out
 | vars, v :: l, out => frV vars l (bif has vars v then out else risP out v)
def frA : List ByteArray → List ByteArray → List ByteArray
 | [], out => out
 | v :: l, out => frA l (risP out v)
end
mutual
def agF : GFml → List ByteArray
 | ⟨_, _, _, _, args, kids⟩ => args ++ agL kids
def agL : List GFml → List ByteArray
 | [] => []
 | x :: l => agF x ++ agL l
end
theorem frV_len (vars : List ByteArray) : ∀ l out : List ByteArray, (frV vars l out).length ≤ out.length + l.length
 | [], out => by rw [frV]; simp
 | v :: l, out => by
  have h1 := frV_len vars l (bif has vars v then out else risP out v)
  have h2 := risP_len out v
  rw [frV, List.length_cons]
  cases hv : has vars v with
  | true => rw [hv] at h1; simp only [cond_true] at h1 ⊢; omega
  | false => rw [hv] at h1; simp only [cond_false] at h1 ⊢; omega
theorem frA_len : ∀ l out : List ByteArray, (frA l out).length ≤ out.length + l.length
 | [], out => by rw [frA]; simp
 | v :: l, out => by
  have h1 := frA_len l (risP out v)
  have h2 := risP_len out v
  rw [frA, List.length_cons]; omega
mutual
theorem frF_len : ∀ f : GFml, (frF f).length ≤ (agF f).length
 | ⟨k, ar, nm, vars, args, kids⟩ => by
  have h1 := frLs_len vars kids []
  have h2 := frA_len args (frLs vars kids [])
  rw [frF, agF, lA]
  rw [List.length_nil] at h1; omega
theorem frLs_len (vars : List ByteArray) : ∀ (l : List GFml) (out : List ByteArray), (frLs vars l out).length ≤ out.length + (agL l).length
 | [], out => by rw [frLs]; omega
 | x :: l, out => by
  have h0 := frF_len x
  have h1 := frV_len vars (frF x) out
  have h2 := frLs_len vars l (frV vars (frF x) out)
  rw [frLs, agL, lA]; omega
end
theorem frV_mem (vars : List ByteArray) : ∀ (l out : List ByteArray) (x : ByteArray), x ∈ frV vars l out → x ∈ l ∨ x ∈ out
 | [], out, x, h => by rw [frV] at h; exact .inr h
 | v :: l, out, x, h => by
  rw [frV] at h
  rcases frV_mem vars l _ x h with h | h
  ·exact .inl (List.mem_cons_of_mem _ h)
  ·cases hv : has vars v with
   | true => rw [hv] at h; exact .inr h
   | false =>
    rw [hv, cond_false, risP_mem] at h
    rcases h with h | h
    ·exact .inl (by rw [h]; exact List.mem_cons_self ..)
    ·exact .inr h
theorem frA_mem : ∀ (l out : List ByteArray) (x : ByteArray), x ∈ frA l out → x ∈ l ∨ x ∈ out
 | [], out, x, h => by rw [frA] at h; exact .inr h
 | v :: l, out, x, h => by
  rw [frA] at h
  rcases frA_mem l _ x h with h | h
  ·exact .inl (List.mem_cons_of_mem _ h)
  ·rcases (risP_mem _ _ _).1 h with h | h
   ·exact .inl (by rw [h]; exact List.mem_cons_self ..)
   ·exact .inr h
mutual
theorem frF_mem : ∀ (f : GFml) (x : ByteArray), x ∈ frF f → x ∈ agF f
 | ⟨k, ar, nm, vars, args, kids⟩, x, h => by
  rw [frF] at h
  rw [agF, List.mem_append]
  rcases frA_mem _ _ _ h with h | h
  ·exact .inl h
  ·rcases frLs_mem vars kids [] x h with h | h
   ·exact .inr h
   ·cases h
theorem frLs_mem (vars : List ByteArray) : ∀ (l : List GFml) (out : List ByteArray) (x : ByteArray), x ∈ frLs vars l out → x ∈ agL l ∨ x ∈ out
 | [], out, x, h => by rw [frLs] at h; exact .inr h
 | y :: l, out, x, h => by
  rw [frLs] at h
  rw [agL, List.mem_append]
  rcases frLs_mem vars l _ x h with h | h
  ·exact .inl (.inr h)
  ·rcases frV_mem vars _ _ x h with h | h
   ·exact .inl (.inl (frF_mem y x h))
   ·exact .inr h
end
theorem agL_app : ∀ a b : List GFml, agL (a ++ b) = agL a ++ agL b
 | [], b => by rw [List.nil_append, agL]; rfl
 | x :: a, b => by rw [List.cons_append, agL, agL, agL_app a b, List.append_assoc]
theorem ref_Free : ∀ (N : Nat) (f : GFml), ndF f ≤ N → f.Ok → (agF f).length ≤ 1000000 → Tri Tryz.prog 21 [f.st] [] (D (strs (frF f)) []) := by
 intro N
 induction N using Nat.strongRecOn with
 | _ N ih =>
  intro f hN ho hlen
  have hnd := ndF_eq f
  obtain ⟨⟨_, _, _, q4, q5⟩, q6, q7⟩ := ho
  have l4 := q4.1
  have l5 := q5.1
  obtain ⟨k, ar, nm, vars, args, kids⟩ := f
  rw [agF, lA] at hlen
  rw [frF]
  simp only at *
  refine Tri.enter 56 Tryz.func21 rfl rfl rfl rfl fun Fr w0 => ?_
  repeat' (first | (refine AW.r 0 ?_; (refine AL.d (AOp.box_ro (v := .st [.int .i64 k, .int .i64 ar, .str nm, strs vars, strs args, .sl (kids.map GFml.av)]) rfl rfl) ?_) <;> refine AL.es 1 ?_ <;> refine AL.nil ?_) | refine AW.re 1 1 ?_ | refine AW.re 2 1 ?_ | refine AW.go ?_ | fail)
  refine AW.prune [1, 3, 4] (AW.loop (fun mz af h => ∃ (i : Nat) (o : List ByteArray), i ≤ kids.length ∧ mz = kids.length - i ∧ af = [(1, .at (.st [.int .i64 k, .int .i64 ar, .str nm, strs vars, strs args, .sl (kids.map GFml.av)])), (3, strs o), (4, .int .i64 i)] ∧ h = [] ∧ (frLs vars kids [] = frLs vars (kids.drop i) o ∧ o.length ≤ (agL (kids.take i)).length)) kids.length ⟨0, [], Nat.zero_le _, rfl, rfl, rfl, ⟨rfl, by simp⟩⟩ ?_)
  rintro mz af h ⟨i, o, hi, rfl, rfl, rfl, he⟩
  refine AW.seq ?_
  by_cases hlt : i < kids.length
  ·obtain ⟨he, hol⟩ := he
   obtain ⟨x, hx⟩ := get_lt hlt
   have hx' : (kids.map GFml.av)[((i : Nat) : Int).toNat]? = some (x.st) := GFml.get hx
   have hxm := lG hx
   have hnx := ndFs_mem hxm
   have htk : agL (kids.take (i + 1)) = agL (kids.take i) ++ agF x := by rw [List.take_add_one, hx, agL_app]; simp [agL]
   have hle : (agL kids).length = (agL (kids.take (i + 1))).length + (agL (kids.drop (i + 1))).length := by rw [← lA, ← agL_app, List.take_append_drop]
   rw [htk, lA] at hle
   have hfl := frF_len x
   have hc := ih (ndF x) (by omega) x (Nat.le_refl _) (q7 x hxm) (by omega)
   rw [drop_cons hx, frLs] at he
   generalize frF x = fx at *
   repeat' (first | refine AW.re 3 5 ?_ | refine AW.jj (fun hb => ?_) (fun hb => ?_) | refine AW.go ?_ | fail)
   all_goals try (exfalso; simp only [dT, dF, lM] at *; omega)
   repeat' (first | (refine xS 5 3 ?_; refine AL.d (iX hx') ?_; refine AL.es 1 ?_; refine AL.d (AOp.call rfl rfl hc) ?_; refine xN 1 ?_) | refine AW.re 6 1 ?_ | refine AW.go ?_ | fail)
   obtain ⟨I0, hI0⟩ : ∃ j : Nat, j = i := ⟨i, rfl⟩
   subst hI0
   have hlt0 := hlt
   have he0 := he
   refine AW.prune [1, 3, 4, 5, 6] (AW.loop (fun mz af h => ∃ (i : Nat) (o2 : List ByteArray), i ≤ fx.length ∧ mz = fx.length - i ∧ af = [(1, .at (.st [.int .i64 k, .int .i64 ar, .str nm, strs vars, strs args, .sl (kids.map GFml.av)])), (3, strs o2), (4, .int .i64 I0), (5, strs fx), (6, .int .i64 i)] ∧ h = [] ∧ (frV vars fx o = frV vars (fx.drop i) o2 ∧ o2.length ≤ o.length + i)) fx.length ⟨0, o, Nat.zero_le _, rfl, rfl, rfl, ⟨rfl, by omega⟩⟩ ?_)
   rintro mz af h ⟨i, o2, hi, rfl, rfl, rfl, he⟩
   refine AW.seq ?_
   by_cases hlt : i < fx.length
   ·obtain ⟨he, hol2⟩ := he
    obtain ⟨v, hv⟩ := get_lt hlt
    have hv' : (fx.map AV.str)[((i : Nat) : Int).toNat]? = some (.str v) := map_get hv
    have hM := Among_has vars (by omega) v
    have hS := ref_sorted o2 v (by omega)
    have hsl := risP_len o2 v
    rw [drop_cons hv, frV] at he
    generalize risP o2 v = o3 at *
    cases hh : has vars v with
    | true =>
     rw [hh] at hM he
     repeat' (first | refine AW.re 7 4 ?_ | (refine AW.dq 9 ?_; refine AQ.es 4 ?_; refine AQ.p rfl (iX hv') ?_; refine AQ.es 1 ?_; refine AQ.p rfl (AOp.call rfl rfl hM) ?_; refine AQ.es 1 ?_; refine AQ.nil ?_) | (refine xS 8 1 ?_; refine AL.d AOp.ad ?_; refine xN 1 ?_) | refine AW.jf ?_ | refine AW.jj (fun hb => ?_) (fun hb => ?_) | refine AW.go ?_ | fail)
     all_goals try (exfalso; simp only [dT, dF, lM] at *; omega)
     refine AW.again_keep (fx.length - (i + 1)) [1, 3, 4, 5, 6] (by omega) ⟨i + 1, o2, hlt, rfl, rfl, rfl, ?_⟩
     exact ⟨he, by omega⟩
    | false =>
     rw [hh] at hM he
     repeat' (first | refine AW.re 7 4 ?_ | (refine AW.dq 9 ?_; refine AQ.es 4 ?_; refine AQ.p rfl (iX hv') ?_; refine AQ.es 1 ?_; refine AQ.p rfl (AOp.call rfl rfl hM) ?_; refine AQ.es 1 ?_; refine AQ.nil ?_) | (refine xS 10 3 ?_; refine AL.d (iX hv') ?_; refine AL.es 1 ?_; refine AL.d (AOp.call rfl rfl hS) ?_; refine xN 1 ?_) | (refine xS 8 1 ?_; refine AL.d AOp.ad ?_; refine xN 1 ?_) | refine AW.jt ?_ | refine AW.jj (fun hb => ?_) (fun hb => ?_) | refine AW.go ?_ | fail)
     all_goals try (exfalso; simp only [dT, dF, lM] at *; omega)
     refine AW.again_keep (fx.length - (i + 1)) [1, 3, 4, 5, 6] (by omega) ⟨i + 1, o3, hlt, rfl, rfl, rfl, ?_⟩
     exact ⟨he, by omega⟩
   ·obtain ⟨he, hol2⟩ := he
    rw [List.drop_eq_nil_of_le (by omega), frV] at he
    rw [he] at he0
    repeat' (first | refine AW.re 7 4 ?_ | refine AW.jj (fun hb => ?_) (fun hb => ?_) | refine AW.go ?_ | fail)
    all_goals try (exfalso; simp only [dT, dF, lM] at *; omega)
    repeat' (first | (refine xS 4 1 ?_; refine AL.d AOp.ad ?_; refine xN 1 ?_) | fail)
    exact AW.again_keep (kids.length - (I0 + 1)) [1, 3, 4] (by omega) ⟨I0 + 1, o2, hlt0, rfl, rfl, rfl, he0, by rw [htk, lA]; omega⟩
  ·obtain ⟨he, hol⟩ := he
   have hal : (agL (kids.take i)).length ≤ (agL kids).length := by
    have hle : (agL kids).length = (agL (kids.take i)).length + (agL (kids.drop i)).length := by rw [← lA, ← agL_app, List.take_append_drop]
    omega
   rw [List.drop_eq_nil_of_le (by omega), frLs] at he
   rw [he]
   repeat' (first | refine AW.re 3 5 ?_ | refine AW.re 11 1 ?_ | refine AW.jj (fun hb => ?_) (fun hb => ?_) | refine AW.go ?_ | fail)
   all_goals try (exfalso; simp only [dT, dF, lM] at *; omega)
   have hob : o.length ≤ (agL kids).length := by omega
   clear he hol hal hlt hi
   refine AW.prune [1, 3, 7] (AW.loop (fun mz af h => ∃ (i : Nat) (o2 : List ByteArray), i ≤ args.length ∧ mz = args.length - i ∧ af = [(1, .at (.st [.int .i64 k, .int .i64 ar, .str nm, strs vars, strs args, .sl (kids.map GFml.av)])), (3, strs o2), (7, .int .i64 i)] ∧ h = [] ∧ (frA args o = frA (args.drop i) o2 ∧ o2.length ≤ o.length + i)) args.length ⟨0, o, Nat.zero_le _, rfl, rfl, rfl, ⟨rfl, by omega⟩⟩ ?_)
   rintro mz af h ⟨i, o2, hi, rfl, rfl, rfl, he⟩
   refine AW.seq ?_
   by_cases hlt : i < args.length
   ·obtain ⟨he, hol2⟩ := he
    obtain ⟨v, hv⟩ := get_lt hlt
    have hv' : (args.map AV.str)[((i : Nat) : Int).toNat]? = some (.str v) := map_get hv
    have hS := ref_sorted o2 v (by omega)
    have hsl := risP_len o2 v
    rw [drop_cons hv, frA] at he
    generalize risP o2 v = o3 at *
    repeat' (first | refine AW.re 12 5 ?_ | (refine xS 14 4 ?_; refine AL.d (iX hv') ?_; refine AL.es 1 ?_; refine AL.d (AOp.call rfl rfl hS) ?_; refine xN 1 ?_) | (refine xS 13 1 ?_; refine AL.d AOp.ad ?_; refine xN 1 ?_) | refine AW.jj (fun hb => ?_) (fun hb => ?_) | refine AW.go ?_ | fail)
    all_goals try (exfalso; simp only [dT, dF, lM] at *; omega)
    refine AW.again_keep (args.length - (i + 1)) [1, 3, 7] (by omega) ⟨i + 1, o3, hlt, rfl, rfl, rfl, ?_⟩
    exact ⟨he, by omega⟩
   ·obtain ⟨he, hol2⟩ := he
    rw [List.drop_eq_nil_of_le (by omega), frA] at he
    rw [he]
    repeat' (first | refine AW.re 12 5 ?_ | refine AW.re 15 2 ?_ | refine AW.jj (fun hb => ?_) (fun hb => ?_) | refine AW.go ?_ | fail)
    all_goals try (exfalso; simp only [dT, dF, lM] at *; omega)
    exact AW.retv rfl ⟨rfl, rfl⟩
def akA : List ByteArray → List ByteArray → List ByteArray → List ByteArray → Bool
 | x :: l, y :: m, xs, ys => (plc xs x == plc ys y) && (!decide (plc xs x < 0) || decide (x = y)) && akA l m xs ys
 | _, _, _, _ => true
mutual
def akF : GFml → GFml → List ByteArray → List ByteArray → Bool
 | ⟨k, ar, nm, vars, args, kids⟩, g, xs, ys => (k == g.Kind && decide (nm = g.Name) && ar == g.Arity && ((vars.length : Int) == g.Vars.length) && ((args.length : Int) == g.Args.length) && ((kids.length : Int) == g.Kids.length))
   && (akA args g.Args xs ys && akL kids g.Kids (xs ++ vars) (ys ++ g.Vars))
def akL : List GFml → List GFml → List ByteArray → List ByteArray → Bool
 | x :: l, y :: m, xs, ys => akF x y xs ys && akL l m xs ys
 | _, _, _, _ => true
end
theorem akA_nil (m xs ys : List ByteArray) : akA [] m xs ys = true := by cases m <;> simp [akA]
theorem akL_nil (m : List GFml) (xs ys : List ByteArray) : akL [] m xs ys = true := by cases m <;> simp [akL]
theorem plN_app (l r : List ByteArray) (s : ByteArray) : ∀ i, i ≤ l.length → plN (l ++ r) s i = plN l s i
 | 0, _ => rfl
 | i + 1, h => by rw [plN, plN, plN_app l r s i (by omega), List.getElem?_append_left (by omega)]
theorem plc_snoc (l : List ByteArray) (x s : ByteArray) : plc (l ++ [x]) s = if s = x then (l.length : Int) else plc l s := by
 rw [plc, lA, List.length_singleton, plN, plN_app l [x] s l.length (Nat.le_refl _)]
 have e : (l ++ [x])[l.length]? = some x := by simp
 rw [e]
 by_cases h : s = x
 ·rw [if_pos h, if_pos (by rw [h])]
 ·rw [if_neg h, if_neg (by intro e; exact h (Option.some.inj e).symm)]; rfl
def JJ (tk0 xs ys : List ByteArray) (σ : Sb) (tk : List ByteArray) : Prop := xs.length = ys.length ∧ ∀ v ∈ tk0, rnS σ v ∈ tk ∧ plc xs v = plc ys (rnS σ v) ∧ (plc xs v < 0 → rnS σ v = v)
theorem JJ.mono {tk0 xs ys tk tk' : List ByteArray} {σ : Sb} (h : JJ tk0 xs ys σ tk) (k : ∀ x ∈ tk, x ∈ tk') : JJ tk0 xs ys σ tk' := ⟨h.1, fun v hv => ⟨k _ (h.2 v hv).1, (h.2 v hv).2⟩⟩
theorem JJ.step {tk0 xs ys tk : List ByteArray} {σ : Sb} {v w : ByteArray} (h : JJ tk0 xs ys σ tk) (hw : w ∉ tk) : JJ tk0 (xs ++ [v]) (ys ++ [w]) (up1 σ v w) (tk ++ [w]) := by
 refine ⟨by simp [h.1], fun u hu => ?_⟩
 by_cases e : u = v
 ·have e1 : rnS (up1 σ v w) u = w := by rw [rnS, up1, if_pos e]; rfl
  rw [e1, plc_snoc, plc_snoc, if_pos e, if_pos rfl, h.1]
  exact ⟨by simp, rfl, fun h => by omega⟩
 ·have e1 : rnS (up1 σ v w) u = rnS σ u := by rw [rnS, rnS, up1, if_neg e]
  obtain ⟨h1, h2, h3⟩ := h.2 u hu
  have hne : ¬ rnS σ u = w := fun e => hw (e ▸ h1)
  rw [e1, plc_snoc, plc_snoc, if_neg e, if_neg hne]
  exact ⟨by simp [h1], h2, h3⟩
theorem JJ.list {tk0 : List ByteArray} : ∀ (vars ws xs ys tk : List ByteArray) (σ : Sb), vars.length = ws.length → JJ tk0 xs ys σ tk → Fresh tk ws → JJ tk0 (xs ++ vars) (ys ++ ws) (upV vars ws σ) (tk ++ ws)
 | [], [], xs, ys, tk, σ, _, h, _ => by simpa [upV] using h
 | v :: l, w :: r, xs, ys, tk, σ, hl, h, hf => by
  have hw : w ∉ tk := hf.2 w (by simp)
  have hf2 : Fresh (tk ++ [w]) r := by
   have hn := List.nodup_cons.1 hf.1
   refine ⟨hn.2, fun x hx hm => ?_⟩
   rcases List.mem_append.1 hm with hm | hm
   ·exact hf.2 x (by simp [hx]) hm
   ·rw [List.mem_singleton.1 hm] at hx; exact hn.1 hx
  have := JJ.list l r (xs ++ [v]) (ys ++ [w]) (tk ++ [w]) (up1 σ v w) (by simpa using hl) (h.step hw) hf2
  simpa [upV] using this
 | [], w :: r, _, _, _, _, hl, _, _ => by simp at hl
 | v :: l, [], _, _, _, _, hl, _, _ => by simp at hl
theorem akA_ap {tk0 xs ys tk : List ByteArray} {σ : Sb} (h : JJ tk0 xs ys σ tk) : ∀ l : List ByteArray, (∀ x ∈ l, x ∈ tk0) → akA l (l.map (rnS σ)) xs ys = true
 | [], _ => akA_nil _ _ _
 | x :: l, hl => by
  obtain ⟨_, h2, h3⟩ := h.2 x (hl x (by simp))
  rw [List.map_cons, akA, akA_ap h l (fun y hy => hl y (by simp [hy])), ← h2]
  by_cases e : plc xs x < 0
  ·rw [h3 e]; simp
  ·simp [e]
mutual
theorem ap_like (tk0 : List ByteArray) : ∀ (f : GFml) (σ : Sb) (tk : List ByteArray) (n : Nat) (xs ys : List ByteArray), (∀ x ∈ agF f, x ∈ tk0) → JJ tk0 xs ys σ tk → akF f (apF f σ tk n).1 xs ys = true
 | ⟨k, ar, nm, vars, args, kids⟩, σ, tk, n, xs, ys, ha, hJ => by
  rw [agF] at ha
  rw [apF, akF]
  simp only
  rw [akA_ap hJ args (fun x hx => ha x (List.mem_append_left _ hx)), ap_likeL tk0 kids _ _ _ _ _ (fun x hx => ha x (List.mem_append_right _ hx)) (JJ.list vars _ xs ys tk σ (frL_len _ _ _).symm hJ (frL_fresh _ _ _)), frL_len, ap_lenL, lM]
  simp
theorem ap_likeL (tk0 : List ByteArray) : ∀ (l : List GFml) (σ : Sb) (tk : List ByteArray) (n : Nat) (xs ys : List ByteArray), (∀ x ∈ agL l, x ∈ tk0) → JJ tk0 xs ys σ tk → akL l (apL l σ tk n).1 xs ys = true
 | [], σ, tk, n, xs, ys, ha, hJ => akL_nil _ _ _
 | x :: l, σ, tk, n, xs, ys, ha, hJ => by
  rw [agL] at ha
  rw [apL]
  simp only
  rw [akL, ap_like tk0 x σ tk n xs ys (fun y hy => ha y (List.mem_append_left _ hy)) hJ, ap_likeL tk0 l σ _ _ xs ys (fun y hy => ha y (List.mem_append_right _ hy)) (hJ.mono fun y hy => by rw [ap_tk]; exact List.mem_append_left _ hy)]
  rfl
end
theorem addV_mem (out : List ByteArray) (v x : ByteArray) : x ∈ addV out v ↔ x = v ∨ x ∈ out := by
 unfold addV
 split
 ·rename_i h
  rw [List.any_eq_true] at h
  obtain ⟨y, hy, e⟩ := h
  have e := of_decide_eq_true e
  subst e
  exact ⟨.inr, fun h => h.elim (fun h => h ▸ hy) id⟩
 ·rw [List.mem_append, List.mem_singleton]; exact Or.comm
theorem addVs_mem : ∀ (l out : List ByteArray) (x : ByteArray), x ∈ addVs l out ↔ x ∈ l ∨ x ∈ out
 | [], out, x => by simp [addVs]
 | v :: l, out, x => by
  rw [addVs, addVs_mem l, addV_mem, List.mem_cons]
  constructor
  ·rintro (h | h | h) <;> simp [h]
  ·rintro ((h | h) | h) <;> simp [h]
mutual
theorem vr_ag : ∀ (f : GFml) (out : List ByteArray) (x : ByteArray), x ∈ agF f ∨ x ∈ out → x ∈ vrF f out
 | ⟨k, ar, nm, vars, args, kids⟩, out, x, h => by
  rw [agF, List.mem_append] at h
  rw [vrF]
  refine vr_agL kids _ x ?_
  rw [addVs_mem, addVs_mem]
  rcases h with (h | h) | h
  ·exact .inr (.inl h)
  ·exact .inl h
  ·exact .inr (.inr (.inr h))
theorem vr_agL : ∀ (l : List GFml) (out : List ByteArray) (x : ByteArray), x ∈ agL l ∨ x ∈ out → x ∈ vrL l out
 | [], out, x, h => by
  rw [vrL]
  rcases h with h | h
  ·rw [agL] at h; cases h
  ·exact h
 | y :: l, out, x, h => by
  rw [agL, List.mem_append] at h
  rw [vrL]
  refine vr_agL l _ x ?_
  rcases h with (h | h) | h
  ·exact .inr (vr_ag y out x (.inl h))
  ·exact .inl h
  ·exact .inr (vr_ag y out x (.inr h))
end
theorem apA_fresh (f : GFml) : Fresh (vrF f []) (bdF (apA f)) := ap_fresh f none_ (vrF f []) 0
theorem namesG_nodup : ∀ (l pre : List ByteArray), l.Nodup → (∀ x ∈ l, x ∉ pre) → namesG false true pre l = true
 | [], _, _, _ => rfl
 | x :: l, pre, hn, hp => by
  have hn2 := List.nodup_cons.1 hn
  have h1 : (pre.any fun y => decide (y = x)) = false := by
   have := has_not.2 (hp x (by simp))
   exact this
  rw [namesG, h1, namesG_nodup l (pre ++ [x]) hn2.2 fun y hy hm => ?_]
  ·rfl
  ·rcases List.mem_append.1 hm with hm | hm
   ·exact hp y (by simp [hy]) hm
   ·rw [List.mem_singleton.1 hm] at hy; exact hn2.1 hy
theorem shaped_new {k ar : Int} {nm : ByteArray} {vars args vars' : List ByteArray} {kids kids' : List GFml} (g : ByteArray → ByteArray) (hl : kids'.length = kids.length) (hg : ∀ x, nameB x = true → nameB (g x) = true) (hv : vars'.length = vars.length) (hn : vars'.Nodup) (hvn : ∀ x ∈ vars', nameB x = true)
  (h : shapedP ⟨k, ar, nm, vars, args, kids⟩ = true) : shapedP ⟨k, ar, nm, vars', args.map g, kids'⟩ = true := by
 have h1 : namesG true true [] vars' = true := by
  rw [namesG_split, namesG_all, namesG_nodup vars' [] hn (by simp), Bool.and_true, List.all_eq_true]
  exact hvn
 simp only [shapedP, shp1, shp2, shp3, bA, hl, hv, lM, namesG_all, h1] at h ⊢
 refine ⟨h.1, ⟨⟨h.2.1.1.1, ?_⟩, ⟨h.2.1.2.1, trivial⟩⟩, h.2.2⟩
 have := h.2.1.1.2
 rw [List.all_eq_true] at this ⊢
 intro x hx
 obtain ⟨y, hy, rfl⟩ := List.mem_map.1 hx
 exact hg y (this y hy)
theorem up_name : ∀ (vars r : List ByteArray) (σ : Sb), (∀ v w, σ v = some w → nameB w = true) → (∀ x ∈ r, nameB x = true) → ∀ v w, upV vars r σ v = some w → nameB w = true
 | [], r, σ, h, hr => by rw [upV]; exact h; all_goals intros; simp_all
 | x :: l, [], σ, h, hr => by rw [upV]; exact h; all_goals intros; simp_all
 | x :: l, y :: r, σ, h, hr => by
  rw [upV]
  refine up_name l r _ (fun v w hv => ?_) (fun z hz => hr z (by simp [hz]))
  simp only [up1] at hv
  split at hv
  ·rw [← Option.some.inj hv]; exact hr y (by simp)
  ·exact h v w hv
mutual
theorem ap_sh : ∀ (f : GFml) (σ : Sb) (tk : List ByteArray) (n T : Nat), shsF f = true → tk.length + (bdF f).length ≤ T → n + (bdF f).length * (T + 1) ≤ 9000000000 → (∀ v w, σ v = some w → nameB w = true) → shsF (apF f σ tk n).1 = true
 | ⟨k, ar, nm, vars, args, kids⟩, σ, tk, n, T, h, hT1, hT2, hσ => by
  rw [shsF, bA] at h
  rw [bdF, lA] at hT1 hT2
  rw [Nat.add_mul] at hT2
  obtain ⟨k1, k2, k3⟩ := frL_bd T vars.length tk n (by omega)
  have hnew : ∀ x ∈ (frL vars.length tk n).1, nameB x = true := by
   intro x hx
   obtain ⟨m, hm, rfl⟩ := k3 x hx
   exact wB_name m (by omega)
  rw [apF, shsF, bA]
  refine ⟨ap_shL kids _ _ _ T h.1 (by rw [lA, frL_len]; omega) (by omega) (up_name vars _ σ hσ hnew), shaped_new (rnS σ) (ap_lenL _ _ _ _) (fun x hx => ?_) (frL_len _ _ _) (frL_fresh _ _ _).1 hnew h.2⟩
  rw [rnS]
  cases hs : σ x with
  | none => exact hx
  | some w => exact hσ x w hs
theorem ap_shL : ∀ (l : List GFml) (σ : Sb) (tk : List ByteArray) (n T : Nat), shsFs l = true → tk.length + (bdL l).length ≤ T → n + (bdL l).length * (T + 1) ≤ 9000000000 → (∀ v w, σ v = some w → nameB w = true) → shsFs (apL l σ tk n).1 = true
 | [], σ, tk, n, T, h, hT1, hT2, hσ => by rw [apL]; rfl
 | x :: l, σ, tk, n, T, h, hT1, hT2, hσ => by
  rw [shsFs, bA] at h
  rw [bdL, lA] at hT1 hT2
  rw [Nat.add_mul] at hT2
  have hb := ap_bd T x σ tk n (by omega)
  rw [apL]
  simp only [shsFs]
  rw [ap_sh x σ tk n T h.1 (by omega) (by omega) hσ, ap_shL l σ _ _ T h.2 (by rw [ap_tk, lA]; omega) (by omega) hσ]
  rfl
end
mutual
theorem agF_len : ∀ f : GFml, shsF f = true → (agF f).length ≤ 24 * ndF f
 | ⟨k, ar, nm, vars, args, kids⟩, h => by
  rw [shsF, bA] at h
  have h1 := shaped_args h.2
  have h2 := agL_len kids h.1
  simp only at h1
  rw [agF, ndF, lA]; omega
theorem agL_len : ∀ l : List GFml, shsFs l = true → (agL l).length ≤ 24 * ndFs l
 | [], h => by rw [agL]; exact Nat.zero_le _
 | x :: l, h => by
  rw [shsFs, bA] at h
  have h1 := agF_len x h.1
  have h2 := agL_len l h.2
  rw [agL, ndFs, lA]; omega
end
theorem apA_facts (f : GFml) (ho : f.Ok) (hn : ndF f ≤ 2000) (hV : validF f = true) : validF (apA f) = true ∧ (apA f).Ok ∧ ndF (apA f) = ndF f ∧ (bdF f).length ≤ 48000 ∧ (bdF (apA f)).length ≤ 48000 ∧ (agF f).length ≤ 48000 ∧ (frF f).length ≤ 48000 ∧ (bdF (apA f)).Nodup ∧ ∀ x ∈ frF f, x ∉ bdF (apA f) := by
 have hsh := validF_shs hV
 have l1 := bdF_len f hsh
 have l2 := vrF_len f [] hsh
 rw [List.length_nil, Nat.zero_add] at l2
 have hmul : (bdF f).length * ((vrF f []).length + (bdF f).length + 1) ≤ 48000 * 144001 := Nat.mul_le_mul (by omega) (by omega)
 have hT2 : 0 + (bdF f).length * ((vrF f []).length + (bdF f).length + 1) ≤ 9000000000 := by omega
 have l3 := agF_len f hsh
 have l4 := frF_len f
 have hb := ap_bd _ f none_ (vrF f []) 0 (Nat.le_refl _)
 have hfr := apA_fresh f
 refine ⟨er_valid (ap_er f _ _ _) hV (ap_sh f none_ _ 0 _ hsh (Nat.le_refl _) hT2 (fun v w h => by cases h)), ap_ok f none_ _ 0 _ ho (Nat.le_refl _) hT2 (fun v w h => by cases h), ?_, by omega, ?_, by omega, by omega, hfr.1, fun x hx hm => ?_⟩
 ·rw [← er_nd (apA f), ← er_nd f]; exact congrArg ndF (ap_er f _ _ _)
 ·have := hb.2.2; rw [apA]; omega
 ·exact hfr.2 x hm (vr_ag f [] x (.inl (frF_mem f x hx)))
def tup (n : Nat) : Nat → Nat → List Int
 | 0, _ => []
 | m + 1, i => tup n m (i / n) ++ [((i % n : Nat) : Int)]
theorem tup_len (n : Nat) : ∀ m i, (tup n m i).length = m
 | 0, _ => rfl
 | m + 1, i => by rw [tup, lA, tup_len n m]; rfl
theorem tup_mem {n : Nat} (hn : 0 < n) : ∀ (m i : Nat) (x : Int), x ∈ tup n m i → 0 ≤ x ∧ x < n
 | 0, _, x, h => by cases h
 | m + 1, i, x, h => by
  rw [tup, List.mem_append] at h
  rcases h with h | h
  ·exact tup_mem hn m _ x h
  ·rw [List.mem_singleton.1 h]
   have := Nat.mod_lt i hn
   omega
def rankI (n : Int) : List Int → Int → Int
 | [], r => r
 | x :: t, r => rankI n t (r * n + x)
theorem tup_app (n : Nat) (hn : 0 < n) (a : Nat) : ∀ (b x y : Nat), y < n ^ b → tup n (a + b) (x * n ^ b + y) = tup n a x ++ tup n b y
 | 0, x, y, h => by
  have : y = 0 := by simpa using h
  subst this
  simp [tup]
 | b + 1, x, y, h => by
  have e : x * n ^ (b + 1) + y = x * n ^ b * n + y := by rw [Nat.pow_succ, Nat.mul_assoc]
  rw [Nat.pow_succ] at h
  have hy : y / n < n ^ b := Nat.div_lt_of_lt_mul (by rw [Nat.mul_comm]; exact h)
  rw [← Nat.add_assoc, tup, tup, e, Nat.add_comm (x * n ^ b * n) y, Nat.add_mul_div_right _ _ hn, Nat.add_mul_mod_self_right, Nat.add_comm (y / n), tup_app n hn a b x (y / n) hy, List.append_assoc]
def nxR (n : Int) : List Int → List Int × Bool
 | [] => ([], false)
 | d :: r => if d + 1 < n then ((d + 1) :: r, true) else (0 :: (nxR n r).1, (nxR n r).2)
theorem nxR_tup {n : Nat} (hn : 0 < n) : ∀ (m i : Nat), i < n ^ m → nxR n (tup n m i).reverse = ((tup n m ((i + 1) % n ^ m)).reverse, decide (i + 1 < n ^ m))
 | 0, i, h => by
  have : i = 0 := by simpa using h
  subst this; rfl
 | m + 1, i, h => by
  rw [Nat.pow_succ] at h ⊢
  have hd := Nat.div_lt_of_lt_mul (by rw [Nat.mul_comm]; exact h : i < n * n ^ m)
  have hm := Nat.mod_lt i hn
  have he := Nat.div_add_mod i n
  rw [tup, tup, List.reverse_append, List.reverse_append]
  simp only [List.reverse_cons, List.reverse_nil, List.nil_append, List.singleton_append]
  rw [nxR]
  by_cases hc : i % n + 1 < n
  ·rw [if_pos (by omega)]
   have h1 : i + 1 < n ^ m * n := by
    have : (i / n + 1) * n ≤ n ^ m * n := Nat.mul_le_mul_right n hd
    rw [Nat.add_mul, Nat.one_mul, Nat.mul_comm] at this
    omega
   have h2 : (i + 1) / n = i / n := by
    rw [← he, Nat.add_assoc, Nat.mul_add_div hn, Nat.mul_add_div hn, Nat.div_eq_of_lt hc, Nat.div_eq_of_lt hm]
   have h3 : (i + 1) % n = i % n + 1 := by
    rw [← he, Nat.add_assoc, Nat.mul_add_mod, Nat.mul_add_mod, Nat.mod_eq_of_lt hc, Nat.mod_eq_of_lt hm]
   rw [Nat.mod_eq_of_lt h1, h2, h3, decide_eq_true h1]
   rfl
  ·rw [if_neg (by omega), nxR_tup hn m (i / n) hd]
   have hi : i + 1 = (i / n + 1) * n := by rw [Nat.add_mul, Nat.one_mul, Nat.mul_comm]; omega
   have h1 : (i + 1) % (n ^ m * n) = ((i / n + 1) % n ^ m) * n := by rw [hi, Nat.mul_mod_mul_right]
   rw [h1, Nat.mul_div_cancel _ hn, Nat.mul_mod_left]
   have h2 : decide (i + 1 < n ^ m * n) = decide (i / n + 1 < n ^ m) := by
    rw [hi]; exact decide_eq_decide.2 (Nat.mul_lt_mul_right hn)
   rw [h2]; rfl
def incB : List Bool → List Bool × Bool
 | [] => ([], false)
 | true :: r => (false :: (incB r).1, (incB r).2)
 | false :: r => (true :: r, true)
def bitV : List Bool → Nat
 | [] => 0
 | b :: r => b.toNat + 2 * bitV r
theorem incB_len : ∀ l, (incB l).1.length = l.length
 | [] => rfl
 | true :: r => by simp [incB, incB_len r]
 | false :: r => by simp [incB]
theorem bitV_lt : ∀ l, bitV l < 2 ^ l.length
 | [] => by simp [bitV]
 | b :: r => by
  have := bitV_lt r
  have hb : b.toNat ≤ 1 := Bool.toNat_le b
  rw [bitV, List.length_cons, Nat.pow_succ]; omega
theorem incB_val : ∀ l, (incB l).2 = true → bitV (incB l).1 = bitV l + 1
 | [], h => by cases h
 | true :: r, h => by
  simp only [incB] at h ⊢
  have := incB_val r h
  simp only [bitV, Bool.toNat_false, Bool.toNat_true]; omega
 | false :: r, h => by simp only [incB, bitV, Bool.toNat_false, Bool.toNat_true]; omega
def lkT {α : Type} : List (ByteArray × α) → ByteArray → Option α
 | [], _ => none
 | p :: r, s => match lkT r s with
  | some b => some b
  | none => if p.1 = s then some p.2 else none
theorem lkT_app {α : Type} (s : ByteArray) : ∀ a b : List (ByteArray × α), lkT (a ++ b) s = match lkT b s with | some x => some x | none => lkT a s
 | [], b => by rw [List.nil_append]; cases lkT b s <;> rfl
 | p :: a, b => by
  rw [List.cons_append, lkT, lkT, lkT_app s a b]
  cases lkT b s <;> rfl
theorem lkT_snoc {α : Type} (a : List (ByteArray × α)) (p : ByteArray × α) (s : ByteArray) : lkT (a ++ [p]) s = if p.1 = s then some p.2 else lkT a s := by
 rw [lkT_app, lkT, lkT]
 by_cases h : p.1 = s <;> simp [h]
abbrev TT := List (ByteArray × List Bool)
abbrev VV := List (ByteArray × Int)
def val (V : VV) (s : ByteArray) : Int := (lkT V s).getD 0
theorem val_snoc (V : VV) (v : ByteArray) (x : Int) (s : ByteArray) : val (V ++ [(v, x)]) s = if v = s then x else val V s := by
 rw [val, lkT_snoc]
 by_cases h : v = s
 ·rw [if_pos h, if_pos h]; rfl
 ·rw [if_neg h, if_neg h]; rfl
def falses (m : Nat) : List Bool := List.replicate m false
def lfpR (S : List Bool → List Bool) : Nat → List Bool → List Bool
 | 0, X => X
 | k + 1, X => if S X = X then X else lfpR S k (S X)
def pfpR (S : List Bool → List Bool) : Nat → List (List Bool) → List Bool → Option (List Bool)
 | 0, _, _ => none
 | k + 1, seen, X => if S X = X then some X else if (seen ++ [X]).contains (S X) = true then none else if 5000 < (seen ++ [X]).length then none else pfpR S k (seen ++ [X]) (S X)
def cloR (R : Nat → Nat → Bool) (L a : Nat) : Nat → Nat → Bool
 | 0, y => y == a
 | k + 1, y => cloR R L a k y || (List.range L).any fun x => cloR R L a k x && R x y
def gsR (P : List Bool → Bool) : Nat → List Bool → Bool
 | 0, t => P t
 | k + 1, t => P t || ((incB t).2 && gsR P k (incB t).1)
mutual
def sem (n M : Nat) : GFml → TT → VV → Bool
 | ⟨k, ar, nm, vars, args, kids⟩, T, V =>
  if k = 0 then (match lkT T nm with | none => false | some bits => bits.getD (rankI n (args.map (val V)) 0).toNat false)
  else if k = 1 then val V (args.getD 0 empB) == val V (args.getD 1 empB)
  else if k = 2 then decide (val V (args.getD 0 empB) < val V (args.getD 1 empB))
  else if k = 3 then !semH n M kids T V
  else if k = 4 then semA n M kids T V
  else if k = 5 then semO n M kids T V
  else if k = 6 then (List.range (n ^ vars.length)).any fun i => semH n M kids T (V ++ vars.zip (tup n vars.length i))
  else if k = 7 then !(List.range (n ^ vars.length)).any fun i => !semH n M kids T (V ++ vars.zip (tup n vars.length i))
  else if k = 8 then (lfpR (fun X => (List.range (n ^ vars.length)).map fun i => semH n M kids (T ++ [(nm, X)]) (V ++ vars.zip (tup n vars.length i))) (n ^ vars.length + 1) (falses (n ^ vars.length))).getD (rankI n (args.map (val V)) 0).toNat false
  else if k = 9 then (match pfpR (fun X => (List.range (n ^ vars.length)).map fun i => semH n M kids (T ++ [(nm, X)]) (V ++ vars.zip (tup n vars.length i))) M [] (falses (n ^ vars.length)) with | none => false | some X => X.getD (rankI n (args.map (val V)) 0).toNat false)
  else if k = 10 then cloR (fun x y => semH n M kids T (V ++ vars.zip (tup n (vars.length / 2) x ++ tup n (vars.length / 2) y))) (n ^ (vars.length / 2)) (rankI n ((args.map (val V)).take (vars.length / 2)) 0).toNat (n ^ (vars.length / 2)) (rankI n ((args.map (val V)).drop (vars.length / 2)) 0).toNat
  else gsR (fun X => semH n M kids (T ++ [(nm, X)]) V) (2 ^ (n ^ ar.toNat)) (falses (n ^ ar.toNat))
def semH (n M : Nat) : List GFml → TT → VV → Bool
 | [], _, _ => false
 | x :: _, T, V => sem n M x T V
def semA (n M : Nat) : List GFml → TT → VV → Bool
 | [], _, _ => true
 | x :: l, T, V => sem n M x T V && semA n M l T V
def semO (n M : Nat) : List GFml → TT → VV → Bool
 | [], _, _ => false
 | x :: l, T, V => sem n M x T V || semO n M l T V
end
theorem semH_one (n M : Nat) (x : GFml) (l : List GFml) (T : TT) (V : VV) : semH n M (x :: l) T V = sem n M x T V := by rw [semH]
theorem sem_kids (n M : Nat) (k ar : Int) (nm : ByteArray) (vars args : List ByteArray) (a b : List GFml) (h1 : ∀ T V, semH n M a T V = semH n M b T V) (h2 : ∀ T V, semA n M a T V = semA n M b T V) (h3 : ∀ T V, semO n M a T V = semO n M b T V) (T : TT) (V : VV) :
  sem n M ⟨k, ar, nm, vars, args, a⟩ T V = sem n M ⟨k, ar, nm, vars, args, b⟩ T V := by
 rw [sem, sem]
 simp only [h1, h2, h3]
theorem shaped_no {f : GFml} (h : shapedP f = true) (h8 : f.Kind = 3 ∨ f.Kind = 4 ∨ f.Kind = 5 ∨ f.Kind = 11) : f.Vars = [] := by
 simp only [shapedP, shp3, bA, dT] at h
 have h2 := h.2.1.2.1.2
 rcases h8 with e | e | e | e <;> (rw [e] at h2; simp [rulesP] at h2; exact h2)
theorem shaped_q1 {f : GFml} (h : shapedP f = true) (h8 : f.Kind = 6 ∨ f.Kind = 7 ∨ f.Kind = 8 ∨ f.Kind = 9 ∨ f.Kind = 10 ∨ f.Kind = 11 ∨ f.Kind = 3) : f.Kids.length = 1 := by
 simp only [shapedP, shp1, bA, dT] at h
 have h1 := h.1.1.1.1.1
 have h2 := h.1.1.1.1.2
 rcases h8 with e | e | e | e | e | e | e <;> (rw [e] at h1 h2; simp [rulesP] at h1 h2; omega)
mutual
theorem sem_nn (n M : Nat) : ∀ (f : GFml) (nt : Bool) (T : TT) (V : VV), shsF f = true → sem n M (nnF f nt) T V = (nt != sem n M f T V)
 | ⟨k, ar, nm, vars, args, kids⟩, nt, T, V, h => by
  rw [shsF, bA] at h
  rw [nnF]
  cases k3 : k == 3 with
  | true =>
   rw [cond_true]
   obtain ⟨h1, h2⟩ := shaped_not1 h.2 (by simpa using k3)
   simp only at h1 h2
   obtain rfl : k = 3 := by simpa using k3
   match kids, h1, h.1 with
   | [x], _, hs =>
    rw [shsFs, bA] at hs
    rw [nnH, sem_nn n M x _ T V hs.1, sem]
    simp only [semH_one, show ¬ (3 : Int) = 0 by omega, show ¬ (3 : Int) = 1 by omega, show ¬ (3 : Int) = 2 by omega, if_false, if_true]
    cases nt <;> cases sem n M x T V <;> rfl
  | false =>
   rw [cond_false]
   cases hq : qk k with
   | true =>
    rw [cond_true]
    have hA := sem_nnA n M kids nt
    simp only [qk, Bool.or_eq_true, beq_iff_eq] at hq
    have hk : k = 4 ∨ k = 5 ∨ k = 6 ∨ k = 7 := by omega
    cases nt with
    | false =>
     rw [cond_false, sem_kids n M k ar nm vars args (nnL kids false) kids (fun T V => sem_nnHf n M kids T V h.1) (fun T V => by rw [(hA T V h.1).1 rfl]) (fun T V => by rw [(hA T V h.1).2.1 rfl]) T V]
     cases sem n M ⟨k, ar, nm, vars, args, kids⟩ T V <;> rfl
    | true =>
     rw [cond_true]
     rcases hk with rfl | rfl | rfl | rfl
     ·show sem n M ⟨5, _, _, _, _, _⟩ T V = _
      rw [sem, sem]
      simp only [show ¬ (5 : Int) = 0 by omega, show ¬ (5 : Int) = 1 by omega, show ¬ (5 : Int) = 2 by omega, show ¬ (5 : Int) = 3 by omega, show ¬ (5 : Int) = 4 by omega, show ¬ (4 : Int) = 0 by omega, show ¬ (4 : Int) = 1 by omega, show ¬ (4 : Int) = 2 by omega, show ¬ (4 : Int) = 3 by omega, if_false, if_true]
      rw [(hA T V h.1).2.2.2 rfl]; cases semA n M kids T V <;> rfl
     ·show sem n M ⟨4, _, _, _, _, _⟩ T V = _
      rw [sem, sem]
      simp only [show ¬ (5 : Int) = 0 by omega, show ¬ (5 : Int) = 1 by omega, show ¬ (5 : Int) = 2 by omega, show ¬ (5 : Int) = 3 by omega, show ¬ (5 : Int) = 4 by omega, show ¬ (4 : Int) = 0 by omega, show ¬ (4 : Int) = 1 by omega, show ¬ (4 : Int) = 2 by omega, show ¬ (4 : Int) = 3 by omega, if_false, if_true]
      rw [(hA T V h.1).2.2.1 rfl]; cases semO n M kids T V <;> rfl
     all_goals
      have hl := shaped_q1 h.2 (by simp)
      simp only at hl
      have hH' : ∀ V, semH n M (nnL kids true) T V = !semH n M kids T V := fun V => sem_nnHt n M kids T V h.1 (by omega)
     ·show sem n M ⟨7, _, _, _, _, _⟩ T V = _
      rw [sem, sem]
      simp only [show ¬ (7 : Int) = 0 by omega, show ¬ (7 : Int) = 1 by omega, show ¬ (7 : Int) = 2 by omega, show ¬ (7 : Int) = 3 by omega, show ¬ (7 : Int) = 4 by omega, show ¬ (7 : Int) = 5 by omega, show ¬ (7 : Int) = 6 by omega, show ¬ (6 : Int) = 0 by omega, show ¬ (6 : Int) = 1 by omega, show ¬ (6 : Int) = 2 by omega, show ¬ (6 : Int) = 3 by omega, show ¬ (6 : Int) = 4 by omega, show ¬ (6 : Int) = 5 by omega, if_false, if_true, hH', Bool.not_not]
      cases (List.range (n ^ vars.length)).any fun i => semH n M kids T (V ++ vars.zip (tup n vars.length i)) <;> rfl
     ·show sem n M ⟨6, _, _, _, _, _⟩ T V = _
      rw [sem, sem]
      simp only [show ¬ (7 : Int) = 0 by omega, show ¬ (7 : Int) = 1 by omega, show ¬ (7 : Int) = 2 by omega, show ¬ (7 : Int) = 3 by omega, show ¬ (7 : Int) = 4 by omega, show ¬ (7 : Int) = 5 by omega, show ¬ (7 : Int) = 6 by omega, show ¬ (6 : Int) = 0 by omega, show ¬ (6 : Int) = 1 by omega, show ¬ (6 : Int) = 2 by omega, show ¬ (6 : Int) = 3 by omega, show ¬ (6 : Int) = 4 by omega, show ¬ (6 : Int) = 5 by omega, if_false, if_true, hH']
      cases (List.range (n ^ vars.length)).any fun i => !semH n M kids T (V ++ vars.zip (tup n vars.length i)) <;> rfl
   | false =>
    rw [cond_false]
    have hA := sem_nnA n M kids false
    have he := sem_kids n M k ar nm vars args (nnL kids false) kids (fun T V => sem_nnHf n M kids T V h.1) (fun T V => by rw [(hA T V h.1).1 rfl]) (fun T V => by rw [(hA T V h.1).2.1 rfl]) T V
    cases nt with
    | true =>
     rw [cond_true, sem]
     simp only [semH_one, show ¬ (3 : Int) = 0 by omega, show ¬ (3 : Int) = 1 by omega, show ¬ (3 : Int) = 2 by omega, if_false, if_true]
     rw [he]; cases sem n M ⟨k, ar, nm, vars, args, kids⟩ T V <;> rfl
    | false => rw [cond_false, he]; cases sem n M ⟨k, ar, nm, vars, args, kids⟩ T V <;> rfl
theorem sem_nnHf (n M : Nat) : ∀ (l : List GFml) (T : TT) (V : VV), shsFs l = true → semH n M (nnL l false) T V = semH n M l T V
 | [], T, V, h => by rw [nnL]
 | x :: l, T, V, h => by
  rw [shsFs, bA] at h
  rw [nnL, semH, semH, sem_nn n M x false T V h.1]; cases sem n M x T V <;> rfl
theorem sem_nnHt (n M : Nat) : ∀ (l : List GFml) (T : TT) (V : VV), shsFs l = true → 0 < l.length → semH n M (nnL l true) T V = !semH n M l T V
 | [], T, V, h, hl => by simp at hl
 | x :: l, T, V, h, _ => by
  rw [shsFs, bA] at h
  rw [nnL, semH, semH, sem_nn n M x true T V h.1]; cases sem n M x T V <;> rfl
theorem sem_nnA (n M : Nat) : ∀ (l : List GFml) (nt : Bool) (T : TT) (V : VV), shsFs l = true → (nt = false → semA n M (nnL l nt) T V = semA n M l T V) ∧ (nt = false → semO n M (nnL l nt) T V = semO n M l T V) ∧ (nt = true → semA n M (nnL l nt) T V = !semO n M l T V) ∧ (nt = true → semO n M (nnL l nt) T V = !semA n M l T V)
 | [], nt, T, V, h => by rw [nnL]; simp [semA, semO]
 | x :: l, nt, T, V, h => by
  rw [shsFs, bA] at h
  obtain ⟨k1, k2, k3, k4⟩ := sem_nnA n M l nt T V h.2
  rw [nnL]
  simp only [semA, semO]
  rw [sem_nn n M x nt T V h.1]
  refine ⟨fun e => ?_, fun e => ?_, fun e => ?_, fun e => ?_⟩
  ·rw [k1 e, e]; cases sem n M x T V <;> rfl
  ·rw [k2 e, e]; cases sem n M x T V <;> rfl
  ·rw [k3 e, e]; cases sem n M x T V <;> cases semO n M l T V <;> rfl
  ·rw [k4 e, e]; cases sem n M x T V <;> cases semA n M l T V <;> rfl
end
def VJ (tk0 : List ByteArray) (V V' : VV) (σ : Sb) (tk : List ByteArray) : Prop := ∀ v ∈ tk0, rnS σ v ∈ tk ∧ val V v = val V' (rnS σ v)
theorem VJ.mono {tk0 tk tk' : List ByteArray} {V V' : VV} {σ : Sb} (h : VJ tk0 V V' σ tk) (k : ∀ x ∈ tk, x ∈ tk') : VJ tk0 V V' σ tk' := fun v hv => ⟨k _ (h v hv).1, (h v hv).2⟩
theorem VJ.step {tk0 tk : List ByteArray} {V V' : VV} {σ : Sb} {v w : ByteArray} (x : Int) (h : VJ tk0 V V' σ tk) (hw : w ∉ tk) : VJ tk0 (V ++ [(v, x)]) (V' ++ [(w, x)]) (up1 σ v w) (tk ++ [w]) := by
 intro u hu
 by_cases e : u = v
 ·have e1 : rnS (up1 σ v w) u = w := by rw [rnS, up1, if_pos e]; rfl
  rw [e1, val_snoc, val_snoc, if_pos e.symm, if_pos rfl]
  exact ⟨by simp, rfl⟩
 ·have e1 : rnS (up1 σ v w) u = rnS σ u := by rw [rnS, rnS, up1, if_neg e]
  obtain ⟨h1, h2⟩ := h u hu
  have hne : ¬ w = rnS σ u := fun e => hw (e ▸ h1)
  rw [e1, val_snoc, val_snoc, if_neg (fun e' => e e'.symm), if_neg hne]
  exact ⟨by simp [h1], h2⟩
theorem VJ.list {tk0 : List ByteArray} : ∀ (vars ws tk : List ByteArray) (ts : List Int) (V V' : VV) (σ : Sb), vars.length = ws.length → ts.length = vars.length → VJ tk0 V V' σ tk → Fresh tk ws → VJ tk0 (V ++ vars.zip ts) (V' ++ ws.zip ts) (upV vars ws σ) (tk ++ ws)
 | [], [], tk, ts, V, V', σ, _, _, h, _ => by simpa [upV] using h
 | v :: l, w :: r, tk, t :: ts, V, V', σ, hl, ht, h, hf => by
  have hw : w ∉ tk := hf.2 w (by simp)
  have hf2 : Fresh (tk ++ [w]) r := by
   have hn := List.nodup_cons.1 hf.1
   refine ⟨hn.2, fun x hx hm => ?_⟩
   rcases List.mem_append.1 hm with hm | hm
   ·exact hf.2 x (by simp [hx]) hm
   ·rw [List.mem_singleton.1 hm] at hx; exact hn.1 hx
  have := VJ.list l r (tk ++ [w]) ts (V ++ [(v, t)]) (V' ++ [(w, t)]) (up1 σ v w) (by simpa using hl) (by simpa using ht) (h.step t hw) hf2
  simpa [upV] using this
 | [], w :: r, _, _, _, _, _, hl, _, _, _ => by simp at hl
 | v :: l, [], _, _, _, _, _, hl, _, _, _ => by simp at hl
 | v :: l, w :: r, _, [], _, _, _, _, ht, _, _ => by simp at ht
theorem vals_ap {tk0 tk : List ByteArray} {V V' : VV} {σ : Sb} (h : VJ tk0 V V' σ tk) : ∀ l : List ByteArray, (∀ x ∈ l, x ∈ tk0) → (l.map (rnS σ)).map (val V') = l.map (val V)
 | [], _ => rfl
 | x :: l, hl => by
  rw [List.map_cons, List.map_cons, List.map_cons, vals_ap h l (fun y hy => hl y (by simp [hy])), ← (h x (hl x (by simp))).2]
theorem arg_ap {tk0 tk : List ByteArray} {V V' : VV} {σ : Sb} (h : VJ tk0 V V' σ tk) (l : List ByteArray) (hl : ∀ x ∈ l, x ∈ tk0) (i : Nat) (hi : i < l.length) : val V' ((l.map (rnS σ)).getD i empB) = val V (l.getD i empB) := by
 rw [List.getD_eq_getElem?_getD, List.getD_eq_getElem?_getD, List.getElem?_map, List.getElem?_eq_getElem hi]
 exact ((h _ (hl _ (List.getElem_mem hi))).2).symm
theorem shaped_eq2 {f : GFml} (h : shapedP f = true) (h8 : f.Kind = 1 ∨ f.Kind = 2) : f.Args.length = 2 := by
 simp only [shapedP, shp3, bA, dT] at h
 have h1 := h.2.1.1.1.1
 have h2 := h.2.1.1.1.2
 rcases h8 with e | e <;> (rw [e] at h1 h2; simp [rulesP] at h1 h2; omega)
theorem shaped_tc {f : GFml} (h : shapedP f = true) (h8 : f.Kind = 10) : f.Vars.length % 2 = 0 := by
 simp only [shapedP, shp2, bA, Bool.not_eq_true', Bool.and_eq_false_iff, dF, Bool.not_eq_false', dT] at h
 rcases h.1.2.2 with e | e
 ·exact (e h8).elim
 ·omega
theorem kind_bd {f : GFml} (h : shapedP f = true) : 0 ≤ f.Kind ∧ f.Kind ≤ 11 := by
 by_cases q : 0 ≤ f.Kind ∧ f.Kind ≤ 11
 ·exact q
 ·exfalso
  have e : rulesP f.Kind = ⟨1, 0, 0, 0, 0, 0, false, false, false⟩ := by
   unfold rulesP
   simp only [show ¬ f.Kind = 0 by omega, show ¬ (f.Kind = 1 ∨ f.Kind = 2) by omega, show ¬ f.Kind = 3 by omega, show ¬ (f.Kind = 4 ∨ f.Kind = 5) by omega, show ¬ (f.Kind = 6 ∨ f.Kind = 7) by omega, show ¬ (f.Kind = 8 ∨ f.Kind = 9) by omega, show ¬ f.Kind = 10 by omega, show ¬ f.Kind = 11 by omega, if_false]
  simp only [shapedP, shp1, e, bA, dT] at h
  omega
mutual
theorem sem_ap (N M : Nat) (tk0 : List ByteArray) : ∀ (f : GFml) (σ : Sb) (tk : List ByteArray) (n : Nat) (T : TT) (V V' : VV), shsF f = true → (∀ x ∈ agF f, x ∈ tk0) → VJ tk0 V V' σ tk → sem N M (apF f σ tk n).1 T V' = sem N M f T V
 | ⟨k, ar, nm, vars, args, kids⟩, σ, tk, n, T, V, V', hs, ha, hJ => by
  rw [shsF, bA] at hs
  rw [agF] at ha
  have haa : ∀ x ∈ args, x ∈ tk0 := fun x hx => ha x (List.mem_append_left _ hx)
  have hak : ∀ x ∈ agL kids, x ∈ tk0 := fun x hx => ha x (List.mem_append_right _ hx)
  have hkb := kind_bd hs.2
  rw [apF]
  simp only
  have hlist := fun (ts : List Int) (h : ts.length = vars.length) => VJ.list vars (frL vars.length tk n).1 tk ts V V' σ (frL_len _ _ _).symm h hJ (frL_fresh _ _ _)
  have hK := fun (ts : List Int) (h : ts.length = vars.length) T => sem_apL N M tk0 kids (upV vars (frL vars.length tk n).1 σ) (tk ++ (frL vars.length tk n).1) (frL vars.length tk n).2 T _ _ hs.1 hak (hlist ts h)
  have hl := frL_len vars.length tk n
  have hva := vals_ap hJ args haa
  have hsame : vars = [] → upV vars (frL vars.length tk n).1 σ = σ ∧ tk ++ (frL vars.length tk n).1 = tk := by
   intro e; subst e; exact ⟨rfl, List.append_nil _⟩
  generalize (frL vars.length tk n).1 = ws at *
  generalize (frL vars.length tk n).2 = n' at *
  rw [sem, sem]
  have hk : k = 0 ∨ k = 1 ∨ k = 2 ∨ k = 3 ∨ k = 4 ∨ k = 5 ∨ k = 6 ∨ k = 7 ∨ k = 8 ∨ k = 9 ∨ k = 10 ∨ k = 11 := by simp only at hkb; omega
  have h0 : vars = [] → ∀ T, semH N M (apL kids (upV vars ws σ) (tk ++ ws) n').1 T V' = semH N M kids T V ∧ semA N M (apL kids (upV vars ws σ) (tk ++ ws) n').1 T V' = semA N M kids T V ∧ semO N M (apL kids (upV vars ws σ) (tk ++ ws) n').1 T V' = semO N M kids T V := by
   intro e T
   have := hK [] (by rw [e]; rfl) T
   simpa using this
  have hno : ∀ q : Int, k = q → (q = 3 ∨ q = 4 ∨ q = 5 ∨ q = 11) → vars = [] := by
   intro q e hq
   exact shaped_no hs.2 (by simp only; omega)
  rcases hk with rfl | rfl | rfl | rfl | rfl | rfl | rfl | rfl | rfl | rfl | rfl | rfl
  ·simp only [if_true, hva]
  ·have h2 := shaped_eq2 hs.2 (.inl rfl)
   simp only at h2
   simp only [arg_ap hJ args haa 0 (by omega), arg_ap hJ args haa 1 (by omega)]
   rfl
  ·have h2 := shaped_eq2 hs.2 (.inr rfl)
   simp only at h2
   simp only [arg_ap hJ args haa 0 (by omega), arg_ap hJ args haa 1 (by omega)]
   rfl
  ·simp only [(h0 (hno 3 rfl (by omega)) T).1]; rfl
  ·simp only [(h0 (hno 4 rfl (by omega)) T).2.1]; rfl
  ·simp only [(h0 (hno 5 rfl (by omega)) T).2.2]; rfl
  ·simp only [hl, fun i => (hK (tup N vars.length i) (tup_len _ _ _) T).1]; rfl
  ·simp only [hl, fun i => (hK (tup N vars.length i) (tup_len _ _ _) T).1]; rfl
  ·simp only [hl, hva, fun i X => (hK (tup N vars.length i) (tup_len _ _ _) X).1]; rfl
  ·simp only [hl, hva, fun i X => (hK (tup N vars.length i) (tup_len _ _ _) X).1]; rfl
  ·have h2 := shaped_tc hs.2 rfl
   simp only at h2
   simp only [hl, hva, fun x y => (hK (tup N (vars.length / 2) x ++ tup N (vars.length / 2) y) (by rw [lA, tup_len, tup_len]; omega) T).1]; rfl
  ·simp only [fun X => (h0 (hno 11 rfl (by omega)) X).1]; rfl
theorem sem_apL (N M : Nat) (tk0 : List ByteArray) : ∀ (l : List GFml) (σ : Sb) (tk : List ByteArray) (n : Nat) (T : TT) (V V' : VV), shsFs l = true → (∀ x ∈ agL l, x ∈ tk0) → VJ tk0 V V' σ tk → semH N M (apL l σ tk n).1 T V' = semH N M l T V ∧ semA N M (apL l σ tk n).1 T V' = semA N M l T V ∧ semO N M (apL l σ tk n).1 T V' = semO N M l T V
 | [], σ, tk, n, T, V, V', hs, ha, hJ => by rw [apL]; simp [semH, semA, semO]
 | x :: l, σ, tk, n, T, V, V', hs, ha, hJ => by
  rw [shsFs, bA] at hs
  rw [agL] at ha
  have h1 := sem_ap N M tk0 x σ tk n T V V' hs.1 (fun y hy => ha y (List.mem_append_left _ hy)) hJ
  have h2 := sem_apL N M tk0 l σ (apF x σ tk n).2.1 (apF x σ tk n).2.2 T V V' hs.2 (fun y hy => ha y (List.mem_append_right _ hy)) (hJ.mono fun y hy => by rw [ap_tk]; exact List.mem_append_left _ hy)
  rw [apL]
  simp only [semH, semA, semO, h1, h2.2.1, h2.2.2]
  exact ⟨trivial, trivial, trivial⟩
end
mutual
def fvB (s : ByteArray) : GFml → Bool
 | ⟨_, _, _, vars, args, kids⟩ => has args s || (!has vars s && fvBL s kids)
def fvBL (s : ByteArray) : List GFml → Bool
 | [] => false
 | x :: l => fvB s x || fvBL s l
end
def VEq (f : ByteArray → Bool) (V V' : VV) : Prop := ∀ s, f s = true → val V s = val V' s
theorem val_zip_in (V V' : VV) : ∀ (vars : List ByteArray) (ts : List Int), ts.length = vars.length → ∀ s, (s ∉ vars → val V s = val V' s) → val (V ++ vars.zip ts) s = val (V' ++ vars.zip ts) s := by
 intro vars ts hl s h
 unfold val
 rw [lkT_app, lkT_app]
 cases hz : lkT (vars.zip ts) s with
 | some x => rfl
 | none =>
  refine h fun hm => ?_
  have key : ∀ (vars : List ByteArray) (ts : List Int), ts.length = vars.length → s ∈ vars → lkT (vars.zip ts) s ≠ none := by
   intro vars
   induction vars with
   | nil => intro ts _ h; cases h
   | cons v l ih =>
    intro ts ht hm
    cases ts with
    | nil => simp at ht
    | cons t ts =>
     rw [List.zip_cons_cons, lkT]
     cases hr : lkT (l.zip ts) s with
     | some x => simp
     | none =>
      rcases List.mem_cons.1 hm with rfl | hm
      ·simp
      ·exact (ih ts (by simpa using ht) hm hr).elim
  exact key vars ts hl hm hz
theorem map_val_eq {V V' : VV} : ∀ l : List ByteArray, (∀ s ∈ l, val V s = val V' s) → l.map (val V) = l.map (val V')
 | [], _ => rfl
 | x :: l, h => by rw [List.map_cons, List.map_cons, h x (by simp), map_val_eq l (fun s hs => h s (by simp [hs]))]
theorem getD_val {V V' : VV} (l : List ByteArray) (h : ∀ s ∈ l, val V s = val V' s) (i : Nat) (hi : i < l.length) : val V (l.getD i empB) = val V' (l.getD i empB) := by
 rw [List.getD_eq_getElem?_getD, List.getElem?_eq_getElem hi]
 exact h _ (List.getElem_mem hi)
def TEq (f : ByteArray → Bool) (T T' : TT) : Prop := ∀ s, f s = true → lkT T s = lkT T' s
theorem TEq.push {f g : ByteArray → Bool} {T T' : TT} {nm : ByteArray} (h : TEq f T T') (k : ∀ s, g s = true → s ≠ nm → f s = true) (X : List Bool) : TEq g (T ++ [(nm, X)]) (T' ++ [(nm, X)]) := by
 intro s hs
 rw [lkT_snoc, lkT_snoc]
 by_cases e : nm = s
 ·simp [e]
 ·simp only [e, if_false]; exact h s (k s hs fun e' => e e'.symm)
theorem VEq.push {f g : ByteArray → Bool} {V V' : VV} {vars : List ByteArray} (h : VEq f V V') (k : ∀ s, g s = true → s ∉ vars → f s = true) (ts : List Int) (hl : ts.length = vars.length) : VEq g (V ++ vars.zip ts) (V' ++ vars.zip ts) := by
 intro s hs
 exact val_zip_in V V' vars ts hl s fun hn => h s (k s hs hn)
mutual
theorem sem_env (n M : Nat) : ∀ (f : GFml) (T T' : TT) (V V' : VV), shsF f = true → TEq (fun s => ocs s f) T T' → VEq (fun s => fvB s f) V V' → sem n M f T V = sem n M f T' V'
 | ⟨k, ar, nm, vars, args, kids⟩, T, T', V, V', hs, hT, hV => by
  rw [shsF, bA] at hs
  have hkb := kind_bd hs.2
  have hk : k = 0 ∨ k = 1 ∨ k = 2 ∨ k = 3 ∨ k = 4 ∨ k = 5 ∨ k = 6 ∨ k = 7 ∨ k = 8 ∨ k = 9 ∨ k = 10 ∨ k = 11 := by simp only at hkb; omega
  have hva : ∀ s ∈ args, val V s = val V' s := fun s hs => hV s (by simp only [fvB]; rw [has_mem.2 hs]; rfl)
  have hma := map_val_eq args hva
  have hfk : ∀ s, fvBL s kids = true → s ∉ vars → fvB s ⟨k, ar, nm, vars, args, kids⟩ = true := fun s h1 h2 => by
   rw [fvB, h1, has_not.2 h2]; simp
  have hok : ∀ s, ocsL s kids = true → k ≠ 0 → (bindsB ⟨k, ar, nm, vars, args, kids⟩ = true → nm ≠ s) → ocs s ⟨k, ar, nm, vars, args, kids⟩ = true := fun s h1 h2 h3 => by
   rw [ocs, show (k == 0) = false by simpa using h2, cond_false]
   cases hb : bindsB ⟨k, ar, nm, vars, args, kids⟩ with
   | false => exact h1
   | true => rw [decide_eq_false (h3 hb)]; exact h1
  have hL := sem_envL n M kids
  have hplain : k ≠ 0 → bindsB ⟨k, ar, nm, vars, args, kids⟩ = false → TEq (fun s => ocsL s kids) T T' := fun h1 h2 s h => hT s (hok s h h1 (by rw [h2]; intro h; cases h))
  have hbind : k ≠ 0 → ∀ X, TEq (fun s => ocsL s kids) (T ++ [(nm, X)]) (T' ++ [(nm, X)]) := fun h1 X => TEq.push hT (fun s h2 h3 => hok s h2 h1 fun _ => fun e => h3 e.symm) X
  have hvk : ∀ ts : List Int, ts.length = vars.length → VEq (fun s => fvBL s kids) (V ++ vars.zip ts) (V' ++ vars.zip ts) := fun ts hl => VEq.push hV hfk ts hl
  have hv0 : vars = [] → VEq (fun s => fvBL s kids) V V' := fun e => by
   have := hvk [] (by rw [e]; rfl)
   simpa using this
  rw [sem, sem]
  rcases hk with rfl | rfl | rfl | rfl | rfl | rfl | rfl | rfl | rfl | rfl | rfl | rfl
  ·have : lkT T nm = lkT T' nm := hT nm (by simp [ocs])
   simp only [if_true, this, hma]
  ·have h2 := shaped_eq2 hs.2 (.inl rfl)
   simp only at h2
   simp only [getD_val args hva 0 (by omega), getD_val args hva 1 (by omega)]
   rfl
  ·have h2 := shaped_eq2 hs.2 (.inr rfl)
   simp only at h2
   simp only [getD_val args hva 0 (by omega), getD_val args hva 1 (by omega)]
   rfl
  ·simp only [(hL T T' V V' hs.1 (hplain (by omega) rfl) (hv0 (shaped_no hs.2 (by simp)))).1]; rfl
  ·simp only [(hL T T' V V' hs.1 (hplain (by omega) rfl) (hv0 (shaped_no hs.2 (by simp)))).2.1]; rfl
  ·simp only [(hL T T' V V' hs.1 (hplain (by omega) rfl) (hv0 (shaped_no hs.2 (by simp)))).2.2]; rfl
  ·simp only [fun i => (hL T T' _ _ hs.1 (hplain (by omega) rfl) (hvk (tup n vars.length i) (tup_len _ _ _))).1]; rfl
  ·simp only [fun i => (hL T T' _ _ hs.1 (hplain (by omega) rfl) (hvk (tup n vars.length i) (tup_len _ _ _))).1]; rfl
  ·simp only [hma, fun i X => (hL _ _ _ _ hs.1 (hbind (by omega) X) (hvk (tup n vars.length i) (tup_len _ _ _))).1]; rfl
  ·simp only [hma, fun i X => (hL _ _ _ _ hs.1 (hbind (by omega) X) (hvk (tup n vars.length i) (tup_len _ _ _))).1]; rfl
  ·have h2 := shaped_tc hs.2 rfl
   simp only at h2
   simp only [hma, fun x y => (hL T T' _ _ hs.1 (hplain (by omega) rfl) (hvk (tup n (vars.length / 2) x ++ tup n (vars.length / 2) y) (by rw [lA, tup_len, tup_len]; omega))).1]; rfl
  ·simp only [fun X => (hL _ _ V V' hs.1 (hbind (by omega) X) (hv0 (shaped_no hs.2 (by simp)))).1]; rfl
theorem sem_envL (n M : Nat) : ∀ (l : List GFml) (T T' : TT) (V V' : VV), shsFs l = true → TEq (fun s => ocsL s l) T T' → VEq (fun s => fvBL s l) V V' → semH n M l T V = semH n M l T' V' ∧ semA n M l T V = semA n M l T' V' ∧ semO n M l T V = semO n M l T' V'
 | [], T, T', V, V', hs, hT, hV => by simp [semH, semA, semO]
 | x :: l, T, T', V, V', hs, hT, hV => by
  rw [shsFs, bA] at hs
  have h1 := sem_env n M x T T' V V' hs.1 (fun s h => hT s (by simp only [ocsL]; rw [show ocs s x = true from h]; rfl)) (fun s h => hV s (by simp only [fvBL]; rw [show fvB s x = true from h]; rfl))
  have h2 := sem_envL n M l T T' V V' hs.2 (fun s h => hT s (by simp only [ocsL]; rw [show ocsL s l = true from h]; simp)) (fun s h => hV s (by simp only [fvBL]; rw [show fvBL s l = true from h]; simp))
  simp only [semH, semA, semO, h1, h2.2.1, h2.2.2]
  exact ⟨trivial, trivial, trivial⟩
end
def LB (X Y : List Bool) : Prop := ∀ i, X.getD i false = true → Y.getD i false = true
theorem LB.refl (X : List Bool) : LB X X := fun _ h => h
theorem LB.trans {X Y Z : List Bool} (h : LB X Y) (k : LB Y Z) : LB X Z := fun i hi => k i (h i hi)
theorem LB.falses (m : Nat) (Y : List Bool) : LB (falses m) Y := fun i h => by
 unfold Go.Proofs.YtlpndgodkkndnaaGreatDoor.falses at h
 rw [List.getD_eq_getElem?_getD, List.getElem?_replicate] at h
 split at h <;> cases h
def cntB (X : List Bool) : Nat := X.countP id
theorem cnt_lt : ∀ X Y : List Bool, X.length = Y.length → LB X Y → X ≠ Y → cntB X < cntB Y
 | [], [], _, _, h => (h rfl).elim
 | x :: X, [], hl, _, _ => by simp at hl
 | [], y :: Y, hl, _, _ => by simp at hl
 | x :: X, y :: Y, hl, h, hne => by
  have h0 : x = true → y = true := fun e => by have := h 0 (by simpa using e); simpa using this
  have ht : LB X Y := fun i hi => by have := h (i + 1) (by simpa using hi); simpa using this
  have hle : ∀ X Y : List Bool, X.length = Y.length → LB X Y → cntB X ≤ cntB Y := by
   intro X
   induction X with
   | nil => intro Y _ _; simp [cntB]
   | cons a X ih =>
    intro Y hl h
    cases Y with
    | nil => simp at hl
    | cons b Y =>
     have h0 : a = true → b = true := fun e => by have := h 0 (by simpa using e); simpa using this
     have := ih Y (by simpa using hl) (fun i hi => by have := h (i + 1) (by simpa using hi); simpa using this)
     simp only [cntB, List.countP_cons, id] at this ⊢
     cases a <;> cases b <;> simp_all <;> omega
  have hl' : X.length = Y.length := by simpa using hl
  by_cases e : X = Y
  ·subst e
   have hxy : x ≠ y := fun e => hne (by rw [e])
   cases x <;> cases y
   ·exact (hxy rfl).elim
   ·simp [cntB]
   ·have := h0 rfl; cases this
   ·exact (hxy rfl).elim
  ·have h1 := cnt_lt X Y hl' ht e
   simp only [cntB, List.countP_cons, id] at h1 ⊢
   cases x <;> cases y <;> simp_all <;> omega
theorem cnt_le (X : List Bool) : cntB X ≤ X.length := List.countP_le_length
def SM (S : List Bool → List Bool) : Prop := ∀ X Y, LB X Y → LB (S X) (S Y)
theorem lfp_fix {S : List Bool → List Bool} {m : Nat} (hS : SM S) (hm : ∀ X, (S X).length = m) : ∀ (k : Nat) (X : List Bool), X.length = m → LB X (S X) → m - cntB X < k → S (lfpR S k X) = lfpR S k X
 | 0, X, _, _, h => by omega
 | k + 1, X, hl, hX, h => by
  rw [lfpR]
  by_cases e : S X = X
  ·rw [if_pos e]; exact e
  ·rw [if_neg e]
   have h1 := cnt_lt X (S X) (by rw [hl, hm]) hX (fun e' => e e'.symm)
   have h2 := cnt_le (S X)
   rw [hm] at h2
   exact lfp_fix hS hm k (S X) (hm _) (hS _ _ hX) (by omega)
theorem lfp_le {S S' : List Bool → List Bool} {m : Nat} (hS : SM S) (hS' : SM S') (hm' : ∀ X, (S' X).length = m) (h : ∀ X, LB (S X) (S' X)) : ∀ (k : Nat) (X : List Bool), LB X (lfpR S' (m + 1) (falses m)) → LB (lfpR S k X) (lfpR S' (m + 1) (falses m))
 | 0, X, hX => hX
 | k + 1, X, hX => by
  have hf := lfp_fix hS' hm' (m + 1) (falses m) (by simp [falses]) (LB.falses _ _) (by omega)
  rw [lfpR]
  split
  ·exact hX
  ·refine lfp_le hS hS' hm' h k (S X) ?_
   have := (hS _ _ hX).trans (h _)
   rw [hf] at this
   exact this
def TLe (s : ByteArray) (T T' : TT) : Prop := (∀ u, u ≠ s → lkT T u = lkT T' u) ∧ ∃ b b', lkT T s = some b ∧ lkT T' s = some b' ∧ LB b b'
theorem TLe.push {s nm : ByteArray} {T T' : TT} (h : TLe s T T') (hn : nm ≠ s) (X : List Bool) : TLe s (T ++ [(nm, X)]) (T' ++ [(nm, X)]) := by
 refine ⟨fun u hu => ?_, ?_⟩
 ·rw [lkT_snoc, lkT_snoc, h.1 u hu]
 ·obtain ⟨b, b', h1, h2, h3⟩ := h.2
  exact ⟨b, b', by rw [lkT_snoc, if_neg hn, h1], by rw [lkT_snoc, if_neg hn, h2], h3⟩
theorem TLe.self {s : ByteArray} (T : TT) {X Y : List Bool} (h : LB X Y) : TLe s (T ++ [(s, X)]) (T ++ [(s, Y)]) := by
 refine ⟨fun u hu => ?_, X, Y, by rw [lkT_snoc, if_pos rfl], by rw [lkT_snoc, if_pos rfl], h⟩
 rw [lkT_snoc, lkT_snoc, if_neg (fun e => hu e.symm), if_neg (fun e => hu e.symm)]
theorem TLe.out {s : ByteArray} {T T' : TT} (h : TLe s T T') {f : ByteArray → Bool} (hf : f s = false) : TEq f T T' := fun u hu => h.1 u fun e => by rw [e, hf] at hu; cases hu
mutual
theorem pos_part (s : ByteArray) : ∀ (f : GFml) (odd : Bool), posF s f odd true = true → ocs s f = false
 | ⟨k, ar, nm, vars, args, kids⟩, odd, h => by
  rw [posF] at h
  rw [ocs]
  cases k0 : k == 0 with
  | true =>
   rw [k0, cond_true] at h
   rw [cond_true]
   simpa using h
  | false =>
   rw [k0, cond_false] at h
   rw [cond_false]
   cases hb : bindsB ⟨k, ar, nm, vars, args, kids⟩ && decide (nm = s) with
   | true => rfl
   | false =>
    rw [hb, cond_false, Bool.true_or] at h
    exact pos_partL s kids _ h
theorem pos_partL (s : ByteArray) : ∀ (l : List GFml) (odd : Bool), posFs s l odd true = true → ocsL s l = false
 | [], odd, h => by rw [ocsL]
 | x :: l, odd, h => by
  rw [posFs, bA] at h
  rw [ocsL, pos_part s x odd h.1, pos_partL s l odd h.2]; rfl
end
theorem clo_le {R R' : Nat → Nat → Bool} (h : ∀ x y, R x y = true → R' x y = true) (L a : Nat) : ∀ (k y : Nat), cloR R L a k y = true → cloR R' L a k y = true
 | 0, y, hy => hy
 | k + 1, y, hy => by
  rw [cloR, Bool.or_eq_true, List.any_eq_true] at hy
  rw [cloR, Bool.or_eq_true, List.any_eq_true]
  rcases hy with hy | ⟨x, hx, hxy⟩
  ·exact .inl (clo_le h L a k y hy)
  ·rw [bA] at hxy
   exact .inr ⟨x, hx, by rw [bA]; exact ⟨clo_le h L a k x hxy.1, h _ _ hxy.2⟩⟩
theorem gs_le {P P' : List Bool → Bool} (h : ∀ X, P X = true → P' X = true) : ∀ (k : Nat) (t : List Bool), gsR P k t = true → gsR P' k t = true
 | 0, t, ht => h t ht
 | k + 1, t, ht => by
  rw [gsR, Bool.or_eq_true, bA] at ht
  rw [gsR, Bool.or_eq_true, bA]
  rcases ht with ht | ⟨h1, h2⟩
  ·exact .inl (h t ht)
  ·exact .inr ⟨h1, gs_le h k _ h2⟩
theorem any_le {L : Nat} {P Q : Nat → Bool} (h : ∀ i, P i = true → Q i = true) (hp : (List.range L).any P = true) : (List.range L).any Q = true := by
 rw [List.any_eq_true] at hp ⊢
 obtain ⟨i, hi, hpi⟩ := hp
 exact ⟨i, hi, h i hpi⟩
theorem LB_map {L : Nat} {P Q : Nat → Bool} (h : ∀ i, P i = true → Q i = true) : LB ((List.range L).map P) ((List.range L).map Q) := by
 intro i hi
 rw [List.getD_eq_getElem?_getD, List.getElem?_map] at hi ⊢
 cases hr : (List.range L)[i]? with
 | none => rw [hr] at hi; cases hi
 | some j => rw [hr] at hi; exact h j hi
theorem shaped_kids0 {f : GFml} (h : shapedP f = true) (h8 : f.Kind = 1 ∨ f.Kind = 2) : f.Kids = [] := by
 simp only [shapedP, shp1, bA, dT] at h
 have h2 := h.1.1.1.1.2
 rcases h8 with e | e <;> (rw [e] at h2; simp [rulesP] at h2; exact h2)
mutual
theorem sem_mono (n M : Nat) : ∀ (f : GFml) (s : ByteArray) (odd : Bool) (T T' : TT) (V : VV), shsF f = true → grF f = true → posF s f odd false = true → TLe s T T' → (odd = false → sem n M f T V = true → sem n M f T' V = true) ∧ (odd = true → sem n M f T' V = true → sem n M f T V = true)
 | ⟨k, ar, nm, vars, args, kids⟩, s, odd, T, T', V, hs, hg, hp, hT => by
  by_cases hoc : ocs s ⟨k, ar, nm, vars, args, kids⟩ = false
  ·have he := sem_env n M ⟨k, ar, nm, vars, args, kids⟩ T T' V V hs (hT.out hoc) (fun _ _ => rfl)
   rw [he]; exact ⟨fun _ h => h, fun _ h => h⟩
  have hoc : ocs s ⟨k, ar, nm, vars, args, kids⟩ = true := by simpa using hoc
  rw [shsF, bA] at hs
  rw [grF, bA] at hg
  have hkb := kind_bd hs.2
  have hk : k = 0 ∨ k = 1 ∨ k = 2 ∨ k = 3 ∨ k = 4 ∨ k = 5 ∨ k = 6 ∨ k = 7 ∨ k = 8 ∨ k = 9 ∨ k = 10 ∨ k = 11 := by simp only at hkb; omega
  have hL := fun odd T T' V => sem_monoL n M kids s odd T T' V hs.1 hg.2
  rw [posF] at hp
  rw [ocs] at hoc
  rw [sem, sem]
  rcases hk with rfl | rfl | rfl | rfl | rfl | rfl | rfl | rfl | rfl | rfl | rfl | rfl
  ·have hnm : nm = s := by simpa using hoc
   subst hnm
   have ho : odd = false := by simpa using hp
   subst ho
   obtain ⟨b, b', h1, h2, h3⟩ := hT.2
   simp only [if_true, h1, h2]
   exact ⟨fun _ h => h3 _ h, fun h => by cases h⟩
  ·have := shaped_kids0 hs.2 (.inl rfl)
   simp only at this
   rw [this] at hoc
   simp [ocsL, bindsB] at hoc
  ·have := shaped_kids0 hs.2 (.inr rfl)
   simp only at this
   rw [this] at hoc
   simp [ocsL, bindsB] at hoc
  ·have hp' : posFs s kids (!odd) false = true := hp
   have h1 := hL (!odd) T T' V hp' hT
   have hle : 0 < kids.length := by have := shaped_q1 hs.2 (by simp); simp only at this; omega
   constructor
   ·intro ho
    subst ho
    show (!semH n M kids T V) = true → (!semH n M kids T' V) = true
    intro h
    rw [Bool.not_eq_true'] at h ⊢
    cases hx : semH n M kids T' V with
    | false => rfl
    | true => rw [((h1.2 rfl).1 hx)] at h; cases h
   ·intro ho
    subst ho
    show (!semH n M kids T' V) = true → (!semH n M kids T V) = true
    intro h
    rw [Bool.not_eq_true'] at h ⊢
    cases hx : semH n M kids T V with
    | false => rfl
    | true => rw [((h1.1 rfl).1 hx)] at h; cases h
  ·have h1 := hL odd T T' V hp hT
   exact ⟨fun ho => (h1.1 ho).2.1, fun ho => (h1.2 ho).2.1⟩
  ·have h1 := hL odd T T' V hp hT
   exact ⟨fun ho => (h1.1 ho).2.2, fun ho => (h1.2 ho).2.2⟩
  ·have h1 := fun V => hL odd T T' V hp hT
   exact ⟨fun ho => any_le fun i => ((h1 _).1 ho).1, fun ho => any_le fun i => ((h1 _).2 ho).1⟩
  ·have h1 := fun V => hL odd T T' V hp hT
   have hn : ∀ A B : Nat → Bool, (∀ i, A i = true → B i = true) → (!(List.range (n ^ vars.length)).any fun i => !A i) = true → (!(List.range (n ^ vars.length)).any fun i => !B i) = true := by
    intro A B hAB h
    rw [Bool.not_eq_true'] at h ⊢
    cases hx : (List.range (n ^ vars.length)).any fun i => !B i with
    | false => rfl
    | true =>
     rw [any_le (P := fun i => !B i) (Q := fun i => !A i) (fun i hi => by
      rw [Bool.not_eq_true'] at hi ⊢
      cases ha : A i with
      | false => rfl
      | true => rw [hAB i ha] at hi; cases hi) hx] at h
     cases h
   exact ⟨fun ho => hn _ _ fun i => ((h1 _).1 ho).1, fun ho => hn _ _ fun i => ((h1 _).2 ho).1⟩
  ·have hns : nm ≠ s := by
    intro e
    simp [bindsB, e] at hoc
   have hp' : posFs s kids odd false = true := by
    simpa [bindsB, hns] using hp
   have hg1 : posH nm kids = true := by simpa using hg.1
   have hpn : posFs nm kids false false = true := by
    have hl := shaped_q1 hs.2 (by simp)
    simp only at hl
    match kids, hl, hg1 with
    | [x], _, h => rw [posFs, posFs]; rw [posH] at h; rw [h]; rfl
   have hSM : ∀ T, SM (fun X => (List.range (n ^ vars.length)).map fun i => semH n M kids (T ++ [(nm, X)]) (V ++ vars.zip (tup n vars.length i))) := fun T X Y hXY => LB_map fun i => ((sem_monoL n M kids nm false _ _ _ hs.1 hg.2 hpn (TLe.self T hXY)).1 rfl).1
   have hlen : ∀ T X, ((fun X => (List.range (n ^ vars.length)).map fun i => semH n M kids (T ++ [(nm, X)]) (V ++ vars.zip (tup n vars.length i))) X).length = n ^ vars.length := fun T X => by simp
   constructor
   ·intro ho
    have hle := lfp_le (hSM T) (hSM T') (hlen T') (fun X => LB_map fun i => ((hL odd _ _ _ hp' (hT.push hns X)).1 ho).1) (n ^ vars.length + 1) (falses (n ^ vars.length)) (LB.falses _ _)
    exact fun h => hle _ h
   ·intro ho
    have hle := lfp_le (hSM T') (hSM T) (hlen T) (fun X => LB_map fun i => ((hL odd _ _ _ hp' (hT.push hns X)).2 ho).1) (n ^ vars.length + 1) (falses (n ^ vars.length)) (LB.falses _ _)
    exact fun h => hle _ h
  ·exfalso
   have hns : nm ≠ s := by
    intro e
    simp [bindsB, e] at hoc
   have hp' : posFs s kids odd true = true := by
    simpa [bindsB, hns] using hp
   rw [pos_partL s kids odd hp'] at hoc
   simp [bindsB, hns] at hoc
  ·have h1 := fun V => hL odd T T' V hp hT
   exact ⟨fun ho => clo_le (fun x y => ((h1 _).1 ho).1) _ _ _ _, fun ho => clo_le (fun x y => ((h1 _).2 ho).1) _ _ _ _⟩
  ·have hns : nm ≠ s := by
    intro e
    simp [bindsB, e] at hoc
   have hp' : posFs s kids odd false = true := by
    simpa [bindsB, hns] using hp
   exact ⟨fun ho => gs_le (fun X => ((hL odd _ _ _ hp' (hT.push hns X)).1 ho).1) _ _, fun ho => gs_le (fun X => ((hL odd _ _ _ hp' (hT.push hns X)).2 ho).1) _ _⟩
theorem sem_monoL (n M : Nat) : ∀ (l : List GFml) (s : ByteArray) (odd : Bool) (T T' : TT) (V : VV), shsFs l = true → grFs l = true → posFs s l odd false = true → TLe s T T' →
  (odd = false → (semH n M l T V = true → semH n M l T' V = true) ∧ (semA n M l T V = true → semA n M l T' V = true) ∧ (semO n M l T V = true → semO n M l T' V = true)) ∧
  (odd = true → (semH n M l T' V = true → semH n M l T V = true) ∧ (semA n M l T' V = true → semA n M l T V = true) ∧ (semO n M l T' V = true → semO n M l T V = true))
 | [], s, odd, T, T', V, hs, hg, hp, hT => by simp [semH, semA, semO]
 | x :: l, s, odd, T, T', V, hs, hg, hp, hT => by
  rw [shsFs, bA] at hs
  rw [grFs, bA] at hg
  rw [posFs, bA] at hp
  have h1 := sem_mono n M x s odd T T' V hs.1 hg.1 hp.1 hT
  have h2 := sem_monoL n M l s odd T T' V hs.2 hg.2 hp.2 hT
  simp only [semH, semA, semO, bA, Bool.or_eq_true]
  exact ⟨fun ho => ⟨h1.1 ho, fun h => ⟨h1.1 ho h.1, (h2.1 ho).2.1 h.2⟩, fun h => h.imp (h1.1 ho) (h2.1 ho).2.2⟩, fun ho => ⟨h1.2 ho, fun h => ⟨h1.2 ho h.1, (h2.2 ho).2.1 h.2⟩, fun h => h.imp (h1.2 ho) (h2.2 ho).2.2⟩⟩
end
structure TE where
 nm : ByteArray
 ar : Int
 hb : Nat
 bits : List Bool
def TE.av (t : TE) : AV := .st [.str t.nm, .int .i64 t.ar, .osl t.hb t.bits.length t.bits.length]
def TE.cells (t : TE) : List AV := [.str t.nm, .int .i64 t.ar, .osl t.hb t.bits.length t.bits.length]
def TE.row (t : TE) : Own := .row t.hb (t.bits.map bav)
def tcells (ts : List TE) : List AV := ts.flatMap TE.cells
theorem tcells_len : ∀ ts : List TE, (tcells ts).length = 3 * ts.length
 | [] => rfl
 | t :: ts => by
  have := tcells_len ts
  unfold tcells at this ⊢
  rw [List.flatMap_cons, lA, this, List.length_cons]
  simp [TE.cells]; omega
theorem tcells_app (a b : List TE) : tcells (a ++ b) = tcells a ++ tcells b := List.flatMap_append
theorem tcells_get : ∀ (ts : List TE) (i : Nat) (t : TE), ts[i]? = some t → (tcells ts)[3 * i]? = some (.str t.nm) ∧ (tcells ts)[3 * i + 1]? = some (.int .i64 t.ar) ∧ (tcells ts)[3 * i + 2]? = some (.osl t.hb t.bits.length t.bits.length)
 | [], i, t, h => by simp at h
 | u :: ts, 0, t, h => by
  obtain rfl : u = t := by simpa using h
  exact ⟨rfl, rfl, rfl⟩
 | u :: ts, i + 1, t, h => by
  have ih := tcells_get ts i t (by simpa using h)
  unfold tcells at ih ⊢
  rw [List.flatMap_cons, show 3 * (i + 1) = 3 * i + 3 by omega]
  exact ih
structure WS where
 N : Nat
 base : Nat
 long : Bool
 to : Option Nat
 tc : Nat
 tt : List AV
 ts : List TE
 no : Option Nat
 nc : Nat
 nt : List AV
 ns : List ByteArray
 vo : Option Nat
 vc : Nat
 vt : List AV
 vs : List Int
def WS.box (s : WS) : AV := .st [.int .i64 s.N, .int .i64 s.base, bfV s.to s.ts.length s.tc, bfV s.no s.ns.length s.nc, bfV s.vo s.vs.length s.vc, .bool s.long]
def wH (bw : Nat) (s : WS) : AH := .box bw s.box :: bfO s.to (tcells s.ts ++ s.tt) :: bfO s.no (s.ns.map AV.str ++ s.nt) :: bfO s.vo (s.vs.map iav ++ s.vt) :: s.ts.map TE.row
structure WS.Ok (s : WS) : Prop where
 n1 : 1 ≤ s.N
 n2 : s.N ≤ 64
 t1 : s.ts.length * 3 + s.tt.length = s.tc * 3
 t2 : s.to = none → s.ts.length = 0 ∧ s.tc = 0
 t3 : s.ts.length ≤ 10000
 m1 : s.ns.length + s.nt.length = s.nc
 m2 : s.no = none → s.ns.length = 0 ∧ s.nc = 0
 m3 : s.ns.length ≤ 100000
 v1 : s.vs.length + s.vt.length = s.vc
 v2 : s.vo = none → s.vs.length = 0 ∧ s.vc = 0
 v3 : s.vs.length = s.ns.length
 v4 : ∀ x ∈ s.vs, 0 ≤ x ∧ x < s.N
def WS.T (s : WS) : TT := s.ts.map fun t => (t.nm, t.bits)
def WS.V (s : WS) : VV := s.ns.zip s.vs
theorem val_bd {n : Int} (hn : 1 ≤ n) : ∀ (ns : List ByteArray) (vs : List Int), (∀ x ∈ vs, 0 ≤ x ∧ x < n) → ∀ v, 0 ≤ val (ns.zip vs) v ∧ val (ns.zip vs) v < n := by
 intro ns vs hv v
 have key : ∀ (V : VV), (∀ p ∈ V, 0 ≤ p.2 ∧ p.2 < n) → ∀ x, lkT V v = some x → 0 ≤ x ∧ x < n := by
  intro V
  induction V with
  | nil => intro _ x h; cases h
  | cons p V ih =>
   intro hp x h
   rw [lkT] at h
   cases hr : lkT V v with
   | some y => rw [hr] at h; exact ih (fun q hq => hp q (by simp [hq])) x (by rw [hr]; exact h)
   | none =>
    rw [hr] at h
    simp only at h
    split at h
    ·rw [← Option.some.inj h]; exact hp p (by simp)
    ·cases h
 unfold val
 cases hr : lkT (ns.zip vs) v with
 | none => exact ⟨Int.le_refl _, by show (0 : Int) < n; omega⟩
 | some x => exact key _ (fun p hp => hv p.2 (List.of_mem_zip (show (p.1, p.2) ∈ _ from hp)).2) x hr
theorem w_value (bw : Nat) (s : WS) (hs : s.Ok) (nm : ByteArray) : Tri Tryz.prog 177 [.ref bw 0, .str nm] (wH bw s) (D (.int .i64 (val s.V nm)) (wH bw s)) := by
 obtain ⟨_, _, _, _, _, m1, m2, m3, v1, v2, v3, v4⟩ := hs
 have hV : ∀ i x y, s.ns[i]? = some x → s.vs[i]? = some y → s.V.take (i + 1) = s.V.take i ++ [(x, y)] := fun i x y h1 h2 => by
  unfold WS.V
  rw [List.take_add_one]
  congr 1
  rw [(List.getElem?_zip_eq_some (z := (x, y))).2 ⟨h1, h2⟩]; rfl
 have hV0 : s.V.length = s.ns.length := by unfold WS.V; rw [List.length_zip]; omega
 generalize hVV : s.V = V at *
 refine Tri.enter 32 Tryz.func177 rfl rfl rfl rfl fun Fr w0 => ?_
 repeat' (first | refine AW.re 0 1 ?_ | (refine xS 1 2 ?_; refine AL.d (AOp.fr 3) ?_; refine AL.d (AOp.ll 0) ?_; refine AL.d (AOp.len_val (by kernel_rfl) rfl) ?_; refine AL.d (AOp.sub rfl rfl (by omega)) ?_; refine xN 1 ?_) | refine AW.go ?_ | fail)
 refine AW.prune [0, 1, 5] (AW.loop (fun mz af h => ∃ i : Nat, i ≤ s.ns.length ∧ mz = i ∧ af = [(0, .ref bw 0), (1, .str nm), (5, .int .i64 ((i : Int) - 1))] ∧ h = wH bw s ∧ val V nm = val (V.take i) nm) s.ns.length ⟨s.ns.length, Nat.le_refl _, rfl, rfl, rfl, by rw [List.take_of_length_le (by omega)]⟩ ?_)
 rintro mz af h ⟨i, hi, rfl, rfl, rfl, he⟩
 refine AW.seq ?_
 cases mz with
 | zero =>
  rw [he]
  repeat' (first | refine AW.re 2 2 ?_ | refine AW.re 6 1 ?_ | refine AW.jf ?_ | fail)
  all_goals try (exfalso; simp only [dT, dF, lM] at *; omega)
  exact AW.retv rfl ⟨rfl, rfl⟩
 | succ j =>
  obtain ⟨x, hx⟩ := get_lt (show j < s.ns.length by omega)
  obtain ⟨y, hy⟩ := get_lt (show j < s.vs.length by omega)
  obtain ⟨bn, hbn⟩ : ∃ b, s.no = some b := by
   cases h : s.no with
   | none => have := m2 h; omega
   | some b => exact ⟨b, rfl⟩
  obtain ⟨bv, hbv⟩ : ∃ b, s.vo = some b := by
   cases h : s.vo with
   | none => have := v2 h; omega
   | some b => exact ⟨b, rfl⟩
  have e1 : (((j + 1 : Nat) : Int) - 1).toNat * 1 = j := by omega
  have hx2 : (s.ns.map AV.str ++ s.nt)[(((j + 1 : Nat) : Int) - 1).toNat * 1]? = some (.str x) := by
   rw [e1, List.getElem?_append_left (by rw [lM]; omega)]; exact map_get hx
  have hy2 : (s.vs.map iav ++ s.vt)[(((j + 1 : Nat) : Int) - 1).toNat * 1]? = some (iav y) := by
   rw [e1, List.getElem?_append_left (by rw [lM]; omega)]; exact map_get hy
  have hh2 : (wH bw s)[2]? = some (.row bn (s.ns.map AV.str ++ s.nt)) := by
   show some (bfO s.no _) = _; rw [hbn]; rfl
  have hh3 : (wH bw s)[3]? = some (.row bv (s.vs.map iav ++ s.vt)) := by
   show some (bfO s.vo _) = _; rw [hbv]; rfl
  rw [hV j x y hx hy, val_snoc] at he
  have hA1 : bfA s.no = some ⟨bn, 0, none⟩ := by rw [hbn]; rfl
  have hA2 : bfA s.vo = some ⟨bv, 0, none⟩ := by rw [hbv]; rfl
  repeat' (first | refine AW.re 2 2 ?_ | (refine xS 4 2 ?_; refine AL.d (AOp.fr 3) ?_; refine AL.d (AOp.ll 0) ?_; refine AL.es 1 ?_; refine AL.d (AOp.index_val 1 rfl hA1 rfl (by omega) (by omega) (by kernel_rfl)) ?_; refine AL.d (AOp.load_cell 2 rfl hh2 hx2 rfl (by kernel_rfl)) ?_; refine xN 2 ?_) | refine AW.jj (fun hb => ?_) (fun hb => ?_) | refine AW.go ?_ | fail)
  all_goals try (exfalso; simp only [dT, dF, lM] at *; omega)
  all_goals rw [toList_beq] at hb
  ·have h : x = nm := by simpa using hb
   rw [if_pos h] at he
   repeat' (first | (refine xS 5 2 ?_; refine AL.d (AOp.fr 4) ?_; refine AL.d (AOp.ll 0) ?_; refine AL.es 1 ?_; refine AL.d (AOp.index_val 1 rfl hA2 rfl (by omega) (by omega) (by kernel_rfl)) ?_; refine AL.d (AOp.load_cell 3 rfl hh3 hy2 rfl (by kernel_rfl)) ?_; refine xN 1 ?_) | fail)
   exact AW.retv rfl ⟨by rw [he]; rfl, rfl⟩
  ·have h : ¬ x = nm := by simpa using hb
   rw [if_neg h] at he
   repeat' (first | (refine xS 3 1 ?_; refine AL.d (AOp.sub rfl rfl (by omega)) ?_; refine xN 1 ?_) | fail)
   exact AW.again_keep j [0, 1, 5] (by omega) ⟨j, by omega, rfl, by simp only [show (((j + 1 : Nat) : Int) - 1) = (j : Int) by omega]; rfl, rfl, he⟩
theorem set_mid {α : Type} (a r : List α) (x y : α) (i : Nat) (h : a.length = i) : (a ++ x :: r).set i y = a ++ y :: r := by
 subst h; simp
theorem w_Values (bw : Nat) (s : WS) (hs : s.Ok) (names : List ByteArray) (hl : names.length ≤ 100000) : Tri Tryz.prog 176 [.ref bw 0, strs names] (wH bw s) (D (ints (names.map (val s.V))) (wH bw s)) := by
 have hMx : (some (AV.int .i64 (names.map AV.str).length)) = some (.int .i64 (names.length : Nat)) := by rw [lM]
 have hv := fun nm => w_value bw s hs nm
 generalize hVV : s.V = V at *
 refine Tri.enter 26 Tryz.func176 rfl rfl rfl rfl fun Fr w0 => ?_
 repeat' (first | refine AW.re 0 1 ?_ | refine AW.go ?_ | fail)
 repeat' (first | (refine xS 1 2 ?_; refine AL.makeSlice (n := names.length) (e := 3) (c := .int .i64 0) (z := .int .i64 0) (bytes := 8) hMx hMx (by kernel_rfl) rfl (by omega) (by omega) rfl fun b => ?_; refine xN 1 ?_) | refine AW.re 2 1 ?_ | refine AW.go ?_ | fail)
 refine AW.prune [0, 1, 5, 6] (AW.loop (fun mz af h => ∃ (i : Nat) (o : List Int), i ≤ names.length ∧ mz = names.length - i ∧ af = [(0, .ref bw 0), (1, strs names), (5, .osl b names.length names.length), (6, .int .i64 i)] ∧ h = .row b (o.map iav ++ List.replicate (names.length - i) (.int .i64 0)) :: wH bw s ∧ o = (names.take i).map (val V)) names.length ⟨0, [], Nat.zero_le _, rfl, rfl, rfl, by simp⟩ ?_)
 rintro mz af h ⟨i, o, hi, rfl, rfl, rfl, he⟩
 refine AW.seq ?_
 by_cases hlt : i < names.length
 ·obtain ⟨x, hx⟩ := get_lt hlt
  have hx' : (names.map AV.str)[((i : Nat) : Int).toNat]? = some (.str x) := map_get hx
  have hol : o.length = i := by rw [he, lM, List.length_take]; omega
  have hc := tailD (hv x) [.row b (o.map iav ++ List.replicate (names.length - i) (.int .i64 0))]
  rw [show names.length - i = (names.length - (i + 1)) + 1 by omega, List.replicate_succ] at hc ⊢
  repeat' (first | refine AW.re 3 4 ?_ | refine AW.jj (fun hb => ?_) (fun hb => ?_) | refine AW.go ?_ | fail)
  all_goals try (exfalso; simp only [dT, dF, lM] at *; omega)
  repeat' (first | (refine xS 5 5 ?_; refine AL.d (iX hx') ?_; refine AL.es 1 ?_; refine AL.d (AOp.call rfl rfl hc) ?_; refine AL.d (AOp.index_osl rfl rfl (by omega) (by omega) (by kernel_rfl)) ?_; refine AL.store_cell 0 rfl rfl rfl (by simp; omega) rfl rfl (by kernel_rfl) ?_ <;> refine AL.nil ?_) | refine AW.go ?_ | fail)
  have hset : (o.map iav ++ AV.int .i64 0 :: List.replicate (names.length - (i + 1)) (.int .i64 0)).set ((i : Nat) : Int).toNat (.int .i64 (val V x)) = (o ++ [val V x]).map iav ++ List.replicate (names.length - (i + 1)) (.int .i64 0) := by
   rw [Int.toNat_natCast, set_mid _ _ _ _ _ (by rw [lM, hol]), List.map_append]; simp [iav]
  refine AW.frame_eq rfl (show _ = .row b ((o ++ [val V x]).map iav ++ List.replicate (names.length - (i + 1)) (.int .i64 0)) :: wH bw s from by rw [← hset]; rfl) ?_
  repeat' (first | (refine xS 4 1 ?_; refine AL.d AOp.ad ?_; refine xN 1 ?_) | fail)
  refine AW.again_keep (names.length - (i + 1)) [0, 1, 5, 6] (by omega) ⟨i + 1, o ++ [val V x], hlt, rfl, rfl, rfl, ?_⟩
  rw [he, List.take_add_one, hx]; simp
 ·have hi' : i = names.length := by omega
  subst hi'
  have ho2 : o = names.map (val V) := by rw [he, List.take_of_length_le (Nat.le_refl _)]
  rw [Nat.sub_self, List.replicate_zero, List.append_nil]
  repeat' (first | refine AW.re 3 4 ?_ | refine AW.jj (fun hb => ?_) (fun hb => ?_) | refine AW.go ?_ | fail)
  all_goals try (exfalso; simp only [dT, dF, lM] at *; omega)
  refine AW.freeze_row 0 5 rfl rfl (by rw [ho2]; simp) (all_map fun _ => rfl) ?_
  repeat' (first | refine AW.re 6 2 ?_ | fail)
  exact AW.retv rfl ⟨by rw [ho2]; rfl, rfl⟩
theorem powle {n : Nat} (hn : 1 ≤ n) {a b : Nat} (h : a ≤ b) : n ^ a ≤ n ^ b := Nat.pow_le_pow_right hn h
theorem rankI_bd {n : Nat} (hn : 1 ≤ n) : ∀ (t : List Int) (i : Nat) (r : Int), (∀ x ∈ t, 0 ≤ x ∧ x < n) → 0 ≤ r → r < (n ^ i : Nat) → 0 ≤ rankI n t r ∧ rankI n t r < (n ^ (i + t.length) : Nat)
 | [], i, r, _, h0, h1 => ⟨h0, h1⟩
 | x :: t, i, r, ht, h0, h1 => by
  have hx := ht x (by simp)
  have h2 : r * n + x < (n ^ (i + 1) : Nat) := by
   rw [Nat.pow_succ, Int.natCast_mul]
   have := Int.mul_le_mul_of_nonneg_right (show r + 1 ≤ (n ^ i : Nat) by omega) (show (0 : Int) ≤ n by omega)
   rw [Int.add_mul] at this; omega
  have h3 : 0 ≤ r * n + x := by have := Int.mul_nonneg h0 (show (0 : Int) ≤ n by omega); omega
  have := rankI_bd hn t (i + 1) (r * n + x) (fun y hy => ht y (by simp [hy])) h3 h2
  rw [rankI, List.length_cons, show i + (t.length + 1) = i + 1 + t.length by omega]
  exact this
theorem ref_rank3 (n : Nat) (hn : 1 ≤ n ∧ n ≤ 64) (t : List Int) (hl : t.length ≤ 60) (ht : ∀ x ∈ t, 0 ≤ x ∧ x < n) (hp : n ^ t.length ≤ 4096) : Tri Tryz.prog 174 [.int .i64 n, ints t] [] (D (.int .i64 (rankI n t 0)) []) := by
 refine Tri.enter 22 Tryz.func174 rfl rfl rfl rfl fun Fr w0 => ?_
 repeat' (first | refine AW.re 0 1 ?_ | refine AW.re 1 1 ?_ | refine AW.re 2 1 ?_ | refine AW.go ?_ | fail)
 refine AW.prune [0, 1, 5, 6] (AW.loop (fun mz af h => ∃ (i : Nat) (r : Int), i ≤ t.length ∧ mz = t.length - i ∧ af = [(0, .int .i64 n), (1, ints t), (5, .int .i64 r), (6, .int .i64 i)] ∧ h = [] ∧ (0 ≤ r ∧ r < (n ^ i : Nat) ∧ rankI n t 0 = rankI n (t.drop i) r)) t.length ⟨0, 0, Nat.zero_le _, rfl, rfl, rfl, ⟨by omega, by simp, rfl⟩⟩ ?_)
 rintro mz af h ⟨i, r, hi, rfl, rfl, rfl, he⟩
 refine AW.seq ?_
 by_cases hlt : i < t.length
 all_goals obtain ⟨r0, r1, he⟩ := he
 ·obtain ⟨x, hx⟩ := get_lt hlt
  have hx' : (t.map iav)[((i : Nat) : Int).toNat]? = some (iav x) := map_get hx
  have hxr := ht x (lG hx)
  rw [drop_cons hx, rankI] at he
  have h3 : r * n + n ≤ (n ^ (i + 1) : Nat) := by
   rw [Nat.pow_succ, Int.natCast_mul]
   have := Int.mul_le_mul_of_nonneg_right (show r + 1 ≤ (n ^ i : Nat) by omega) (show (0 : Int) ≤ n by omega)
   rw [Int.add_mul] at this; omega
  have hle := powle hn.1 (show i + 1 ≤ t.length by omega)
  have hnn : 0 ≤ r * n := Int.mul_nonneg r0 (by omega)
  repeat' (first | refine AW.re 3 4 ?_ | (refine xS 5 2 ?_; refine AL.d (AOp.mul rfl rfl (by omega)) ?_; refine AL.es 2 ?_; refine AL.d (iX hx') ?_; refine AL.es 1 ?_; refine AL.d AOp.ad ?_; refine xN 1 ?_) | (refine xS 4 1 ?_; refine AL.d AOp.ad ?_; refine xN 1 ?_) | refine AW.jj (fun hb => ?_) (fun hb => ?_) | refine AW.go ?_ | fail)
  all_goals try (exfalso; simp only [dT, dF, lM] at *; omega)
  exact AW.again_keep (t.length - (i + 1)) [0, 1, 5, 6] (by omega) ⟨i + 1, _, hlt, rfl, rfl, rfl, by omega, by omega, he⟩
 ·rw [List.drop_eq_nil_of_le (by omega), rankI] at he
  repeat' (first | refine AW.re 3 4 ?_ | refine AW.re 6 2 ?_ | refine AW.jj (fun hb => ?_) (fun hb => ?_) | refine AW.go ?_ | fail)
  all_goals try (exfalso; simp only [dT, dF, lM] at *; omega)
  exact AW.retv rfl ⟨by rw [he], rfl⟩
theorem w_in (bw : Nat) (s : WS) (hs : s.Ok) (nm : ByteArray) (t : List Int) (hl : t.length ≤ 60) (ht : ∀ x ∈ t, 0 ≤ x ∧ x < s.N) (hbits : ∀ bits, lkT s.T nm = some bits → s.N ^ t.length ≤ 4096 ∧ bits.length = s.N ^ t.length) :
  Tri Tryz.prog 175 [.ref bw 0, .str nm, ints t] (wH bw s) (D (.bool (match lkT s.T nm with | none => false | some bits => bits.getD (rankI s.N t 0).toNat false)) (wH bw s)) := by
 obtain ⟨n1, n2, t1, t2, t3, _, _, _, _, _, _, _⟩ := hs
 have hT : ∀ (i : Nat) (x : TE), s.ts[i]? = some x → s.T.take (i + 1) = s.T.take i ++ [(x.nm, x.bits)] := fun i x h => by
  unfold WS.T
  rw [List.take_add_one, List.getElem?_map, h]; rfl
 have hT0 : s.T.length = s.ts.length := by unfold WS.T; rw [lM]
 generalize hTT : s.T = TA at *
 refine Tri.enter 44 Tryz.func175 rfl rfl rfl rfl fun Fr w0 => ?_
 repeat' (first | refine AW.re 0 1 ?_ | (refine xS 1 2 ?_; refine AL.d (AOp.fr 2) ?_; refine AL.d (AOp.ll 0) ?_; refine AL.d (AOp.len_val (by kernel_rfl) rfl) ?_; refine AL.d (AOp.sub rfl rfl (by omega)) ?_; refine xN 1 ?_) | refine AW.go ?_ | fail)
 refine AW.prune [0, 1, 2, 7] (AW.loop (fun mz af h => ∃ i : Nat, i ≤ s.ts.length ∧ mz = i ∧ af = [(0, .ref bw 0), (1, .str nm), (2, ints t), (7, .int .i64 ((i : Int) - 1))] ∧ h = wH bw s ∧ lkT TA nm = lkT (TA.take i) nm) s.ts.length ⟨s.ts.length, Nat.le_refl _, rfl, rfl, rfl, by rw [List.take_of_length_le (by omega)]⟩ ?_)
 rintro mz af h ⟨i, hi, rfl, rfl, rfl, he⟩
 refine AW.seq ?_
 cases mz with
 | zero =>
  rw [he]
  repeat' (first | refine AW.re 2 2 ?_ | refine AW.re 6 1 ?_ | refine AW.jf ?_ | fail)
  all_goals try (exfalso; simp only [dT, dF, lM] at *; omega)
  exact AW.retv rfl ⟨rfl, rfl⟩
 | succ j =>
  obtain ⟨x, hx⟩ := get_lt (show j < s.ts.length by omega)
  obtain ⟨bt, hbt⟩ : ∃ b, s.to = some b := by
   cases h : s.to with
   | none => have := t2 h; omega
   | some b => exact ⟨b, rfl⟩
  obtain ⟨c0, c1, c2⟩ := tcells_get s.ts j x hx
  have hcl := tcells_len s.ts
  have hx0 : (tcells s.ts ++ s.tt)[(((j + 1 : Nat) : Int) - 1).toNat * 3 + 0]? = some (.str x.nm) := by
   rw [show (((j + 1 : Nat) : Int) - 1).toNat * 3 + 0 = 3 * j by omega, List.getElem?_append_left (by omega)]; exact c0
  have hx2 : (tcells s.ts ++ s.tt)[(((j + 1 : Nat) : Int) - 1).toNat * 3 + 2]? = some (.osl x.hb x.bits.length x.bits.length) := by
   rw [show (((j + 1 : Nat) : Int) - 1).toNat * 3 + 2 = 3 * j + 2 by omega, List.getElem?_append_left (by omega)]; exact c2
  have hh1 : (wH bw s)[1]? = some (.row bt (tcells s.ts ++ s.tt)) := by
   show some (bfO s.to _) = _; rw [hbt]; rfl
  have hA1 : bfA s.to = some ⟨bt, 0, none⟩ := by rw [hbt]; rfl
  have hhj : (wH bw s)[4 + j]? = some (.row x.hb (x.bits.map bav)) := by
   rw [show 4 + j = j + 4 by omega]
   show (s.ts.map TE.row)[j]? = _
   rw [List.getElem?_map, hx]; rfl
  rw [hT j x hx, lkT_snoc] at he
  repeat' (first | refine AW.re 2 2 ?_ | (refine xS 4 2 ?_; refine AL.d (AOp.fr 2) ?_; refine AL.d (AOp.ll 0) ?_; refine AL.es 1 ?_; refine AL.d (AOp.index_val 3 rfl hA1 rfl (by omega) (by omega) (by kernel_rfl)) ?_; refine AL.d (AOp.fr 0) ?_; refine AL.d (AOp.load_cell 1 rfl hh1 hx0 rfl (by kernel_rfl)) ?_; refine xN 2 ?_) | refine AW.jj (fun hb => ?_) (fun hb => ?_) | refine AW.go ?_ | fail)
  all_goals try (exfalso; simp only [dT, dF, lM] at *; omega)
  all_goals rw [toList_beq] at hb
  ·have h : x.nm = nm := by simpa using hb
   simp only [h, if_true] at he
   obtain ⟨hp, hbl⟩ := hbits _ he
   obtain ⟨r0, r1⟩ := rankI_bd n1 t 0 0 ht (Int.le_refl _) (by simp)
   rw [Nat.zero_add] at r1
   have hR := ref_rank3 s.N ⟨n1, n2⟩ t hl ht hp
   obtain ⟨bb, hbb⟩ := get_lt (show (rankI s.N t 0).toNat < x.bits.length by omega)
   have hbit : (x.bits.map bav)[(rankI s.N t 0).toNat]? = some (bav bb) := map_get hbb
   rw [he]
   generalize rankI (s.N : Int) t 0 = r at *
   repeat' (first | (refine AW.dq 5 ?_; refine AQ.es 2 ?_; refine AQ.p rfl (AOp.fr 2) ?_; refine AQ.p rfl (AOp.ll 0) ?_; refine AQ.es 1 ?_; refine AQ.p rfl (AOp.index_val 3 rfl hA1 rfl (by omega) (by omega) (by kernel_rfl)) ?_; refine AQ.p rfl (AOp.fr 2) ?_; refine AQ.p rfl (AOp.load_cell 1 rfl hh1 hx2 rfl (by kernel_rfl)) ?_; refine AQ.es 2 ?_; refine AQ.p rfl (AOp.fr 0) ?_; refine AQ.p rfl (AOp.ll 0) ?_; refine AQ.es 1 ?_; refine AQ.p rfl (AOp.call rfl rfl (hR.pure _)) ?_; refine AQ.p rfl (AOp.index_osl rfl rfl (by omega) (by omega) (by kernel_rfl)) ?_; refine AQ.p rfl (AOp.load_cell (4 + j) rfl hhj hbit rfl (by kernel_rfl)) ?_; refine AQ.es 1 ?_; refine AQ.nil ?_) | fail)
   exact AW.retv rfl ⟨by simp only [List.getD_eq_getElem?_getD, hbb]; rfl, rfl⟩
  ·have h : ¬ x.nm = nm := by simpa using hb
   simp only [h, if_false] at he
   repeat' (first | (refine xS 3 1 ?_; refine AL.d (AOp.sub rfl rfl (by omega)) ?_; refine xN 1 ?_) | fail)
   exact AW.again_keep j [0, 1, 2, 7] (by omega) ⟨j, by omega, rfl, by simp only [show (((j + 1 : Nat) : Int) - 1) = (j : Int) by omega]; rfl, rfl, he⟩
theorem ref_next (b m n : Nat) (l : List Int) (hm : l.length = m) (hn : 1 ≤ n ∧ n ≤ 64) (hl : ∀ x ∈ l, 0 ≤ x ∧ x < n) (hm2 : m ≤ 100000) :
  Tri Tryz.prog 193 [.osl b m m, .int .i64 n] [.row b (l.map iav)] (D (.bool (nxR n l.reverse).2) [.row b ((nxR n l.reverse).1.reverse.map iav)]) := by
 subst hm
 refine Tri.enter 28 Tryz.func193 rfl rfl rfl rfl fun Fr w0 => ?_
 repeat' (first | refine AW.re 0 1 ?_ | (refine xS 1 2 ?_; refine AL.d (AOp.sub rfl rfl (by omega)) ?_; refine xN 1 ?_) | refine AW.go ?_ | fail)
 refine AW.prune [0, 1, 5] (AW.loop (fun mz af h => ∃ i : Nat, i ≤ l.length ∧ mz = i ∧ af = [(0, .osl b l.length l.length), (1, .int .i64 n), (5, .int .i64 ((i : Int) - 1))] ∧ h = [.row b ((l.take i).map iav ++ List.replicate (l.length - i) (.int .i64 0))] ∧ nxR n l.reverse = (List.replicate (l.length - i) 0 ++ (nxR n (l.take i).reverse).1, (nxR n (l.take i).reverse).2)) l.length ⟨l.length, Nat.le_refl _, rfl, rfl, by simp, by simp⟩ ?_)
 rintro mz af h ⟨i, hi, rfl, rfl, rfl, he⟩
 refine AW.seq ?_
 cases mz with
 | zero =>
  rw [he]
  repeat' (first | refine AW.re 2 2 ?_ | refine AW.re 8 1 ?_ | refine AW.jf ?_ | fail)
  all_goals try (exfalso; simp only [dT, dF, lM] at *; omega)
  refine AW.retv rfl ⟨rfl, ?_⟩
  simp [nxR, iav]
 | succ j =>
  obtain ⟨x, hx⟩ := get_lt (show j < l.length by omega)
  have hxr := hl x (lG hx)
  have htk : l.take (j + 1) = l.take j ++ [x] := by rw [List.take_add_one, hx]; rfl
  have htl : ((l.take j).map iav).length = j := by rw [lM, List.length_take]; omega
  rw [htk, List.reverse_append] at he
  simp only [List.reverse_cons, List.reverse_nil, List.nil_append, List.singleton_append] at he
  rw [nxR] at he
  have hrow : (l.take (j + 1)).map iav ++ List.replicate (l.length - (j + 1)) (AV.int .i64 0) = (l.take j).map iav ++ iav x :: List.replicate (l.length - (j + 1)) (.int .i64 0) := by rw [htk]; simp
  rw [hrow]
  have hg : ∀ y : AV, ((l.take j).map iav ++ y :: List.replicate (l.length - (j + 1)) (AV.int .i64 0))[(((j + 1 : Nat) : Int) - 1).toNat]? = some y := fun y => by
   rw [show (((j + 1 : Nat) : Int) - 1).toNat = j by omega, List.getElem?_append_right (by omega), htl, Nat.sub_self]; rfl
  have hset : ∀ y z : AV, ((l.take j).map iav ++ y :: List.replicate (l.length - (j + 1)) (AV.int .i64 0)).set (((j + 1 : Nat) : Int) - 1).toNat z = (l.take j).map iav ++ z :: List.replicate (l.length - (j + 1)) (AV.int .i64 0) := fun y z => by
   rw [show (((j + 1 : Nat) : Int) - 1).toNat = j by omega, set_mid _ _ _ _ _ htl]
  have hll : (((j + 1 : Nat) : Int) - 1).toNat < ((l.take j).map iav ++ iav x :: List.replicate (l.length - (j + 1)) (AV.int .i64 0)).length := by
   rw [lA, htl, List.length_cons]; omega
  repeat' (first | refine AW.re 2 2 ?_ | refine AW.jj (fun hb => ?_) (fun hb => ?_) | refine AW.go ?_ | fail)
  all_goals try (exfalso; simp only [dT, dF, lM] at *; omega)
  repeat' (first | (refine xS 4 2 ?_; refine AL.d (AOp.index_osl rfl rfl (by omega) (by omega) (by kernel_rfl)) ?_; refine AL.d (AOp.load_cell 0 rfl rfl (hg _) rfl (by kernel_rfl)) ?_; refine AL.d (AOp.add rfl rfl (by omega)) ?_; refine AL.d (AOp.index_osl rfl rfl (by omega) (by omega) (by kernel_rfl)) ?_; refine AL.store_cell 0 rfl rfl rfl hll rfl rfl (by kernel_rfl) ?_; refine AL.nil ?_) | refine AW.go ?_ | fail)
  refine AW.frame_eq rfl (show _ = [Own.row b ((l.take j).map iav ++ iav (x + 1) :: List.replicate (l.length - (j + 1)) (.int .i64 0))] from by rw [← hset (iav x) (iav (x + 1))]; rfl) ?_
  repeat' (first | (refine xS 5 2 ?_; refine AL.d (AOp.index_osl rfl rfl (by omega) (by omega) (by kernel_rfl)) ?_; refine AL.d (AOp.load_cell 0 rfl rfl (hg _) rfl (by kernel_rfl)) ?_; refine xN 2 ?_) | refine AW.jj (fun hb => ?_) (fun hb => ?_) | refine AW.go ?_ | fail)
  ·have h : x + 1 < (n : Int) := by simpa using hb
   rw [if_pos h] at he
   repeat' (first | refine AW.re 6 1 ?_ | fail)
   refine AW.retv rfl ⟨by rw [he]; rfl, ?_⟩
   rw [he]
   simp only [List.reverse_append, List.reverse_cons, List.reverse_reverse, List.reverse_replicate, List.map_append, List.map_cons, List.map_replicate, List.append_assoc, List.map_nil, List.cons_append, List.nil_append]
   rfl
  ·have h : ¬ x + 1 < (n : Int) := by simpa using hb
   rw [if_neg h] at he
   have hll2 : (((j + 1 : Nat) : Int) - 1).toNat < ((l.take j).map iav ++ iav (x + 1) :: List.replicate (l.length - (j + 1)) (AV.int .i64 0)).length := by
    rw [lA, htl, List.length_cons]; omega
   repeat' (first | (refine xS 7 2 ?_; refine AL.d (AOp.index_osl rfl rfl (by omega) (by omega) (by kernel_rfl)) ?_; refine AL.store_cell 0 rfl rfl rfl hll2 rfl rfl (by kernel_rfl) ?_; refine AL.nil ?_) | (refine xS 3 1 ?_; refine AL.d (AOp.sub rfl rfl (by omega)) ?_; refine xN 1 ?_) | fail)
   refine AW.again_keep j [0, 1, 5] (by omega) ⟨j, by omega, rfl, by simp only [show (((j + 1 : Nat) : Int) - 1) = (j : Int) by omega]; rfl, ?_, ?_⟩
   ·show [Own.row b (((l.take j).map iav ++ iav (x + 1) :: List.replicate (l.length - (j + 1)) (AV.int .i64 0)).set _ _)] = _
    rw [hset, show l.length - j = (l.length - (j + 1)) + 1 by omega, List.replicate_succ]
    rfl
   ·rw [he, show l.length - j = (l.length - (j + 1)) + 1 by omega, List.replicate_succ']
    simp
inductive Mm where
 | m0
 | m1 (fr : Bool) (names : List ByteArray)
 | m2 (fr : Bool) (names : List ByteArray) (nn : Bool) (tab : TE)
def zTab : AV := .st [.str empB, .int .i64 0, .val (.slice none 0 0)]
def Mm.kn : Mm → Bool | .m0 => false | _ => true
def Mm.fr : Mm → Bool | .m0 => false | .m1 b _ => b | .m2 b _ _ _ => b
def Mm.dn : Mm → Bool | .m2 _ _ _ _ => true | _ => false
def Mm.nn : Mm → Bool | .m2 _ _ b _ => b | _ => false
def Mm.nav : Mm → AV | .m0 => .slt [] none 0 | .m1 _ l => strs l | .m2 _ l _ _ => strs l
def Mm.tab : Mm → AV | .m2 _ _ _ t => t.av | _ => zTab
def Mm.own : Mm → AH | .m2 _ _ _ t => [t.row] | _ => []
inductive NT where
 | mk (b : Nat) (f : GFml) (m : Mm) (kids : List NT)
def NT.b : NT → Nat | .mk b _ _ _ => b
def NT.f : NT → GFml | .mk _ f _ _ => f
def NT.m : NT → Mm | .mk _ _ m _ => m
def NT.kids : NT → List NT | .mk _ _ _ k => k
def nbox (f : GFml) (kb : List Nat) (m : Mm) : AV := .st [f.st, .sl (kb.map fun b => .ref b 0), .bool m.kn, .bool m.fr, .bool m.dn, .bool m.nn, m.nav, m.tab]
mutual
def nown : NT → AH
 | .mk b f m kids => .box b (nbox f (kids.map NT.b) m) :: (m.own ++ nownL kids)
def nownL : List NT → AH
 | [] => []
 | n :: l => nown n ++ nownL l
end
def NT.bx (n : NT) : Own := .box n.b (nbox n.f (n.kids.map NT.b) n.m)
def NT.rest (n : NT) : AH := n.m.own ++ nownL n.kids
theorem nown_eq (n : NT) : nown n = n.bx :: n.rest := by cases n; rw [nown]; rfl
def hH (bw : Nat) (s : WS) (n : NT) : AH := n.bx :: (wH bw s ++ n.rest)
structure Same (s s' : WS) : Prop where
 N : s'.N = s.N
 base : s'.base = s.base
 ts : s'.ts = s.ts
 ns : s'.ns = s.ns
 vs : s'.vs = s.vs
 ok : s'.Ok
theorem Same.refl {s : WS} (h : s.Ok) : Same s s := ⟨rfl, rfl, rfl, rfl, rfl, h⟩
theorem Same.trans {a b c : WS} (h : Same a b) (k : Same b c) : Same a c := ⟨k.N.trans h.N, k.base.trans h.base, k.ts.trans h.ts, k.ns.trans h.ns, k.vs.trans h.vs, k.ok⟩
theorem Same.T {s s' : WS} (h : Same s s') : s'.T = s.T := by unfold WS.T; rw [h.ts]
theorem Same.V {s s' : WS} (h : Same s s') : s'.V = s.V := by unfold WS.V; rw [h.ns, h.vs]
def HPost (bw : Nat) (s : WS) (n : NT) (K : NT → Prop) (v : AV) (Y : AH) : AEnd → AH → Prop := fun x h => x = .ret v ∧ ∃ s' n', h = Y ++ hH bw s' n' ∧ Same s s' ∧ n'.b = n.b ∧ n'.f = n.f ∧ K n'
theorem permW0 {α : Type} (w a b n t : α) (R : List α) : ([w, a, b] ++ (n :: t :: R)).Perm (n :: w :: t :: a :: b :: R) :=
 ((List.perm_append_comm (l₁ := [w, a, b]) (l₂ := [n, t])).append_right R).trans (.cons _ (.swap _ _ _))
theorem permW1 {α : Type} (y w a b n t : α) (R : List α) : ([y, w, a, b] ++ (n :: t :: R)).Perm (y :: n :: w :: t :: a :: b :: R) := .cons _ (permW0 w a b n t R)
theorem Tri.ahead {P : Program} {f : FuncId} {args : List AV} {b : AH} {Φ : AEnd → AH → Prop} (h : Tri P f args b Φ) (a : AH) : Tri P f args (a ++ b) (fun x h => ∃ h1, Φ x h1 ∧ h = a ++ h1) := by
 have := h.around a []
 simpa using this
theorem w_With_ro (bw : Nat) (K : NT → Prop) (v : Bool) (n : NT) (s : WS) (names : List ByteArray) (at_ : List Int) (hs : s.Ok) (hl : at_.length = names.length) (hn : s.ns.length + names.length ≤ 100000) (hat : ∀ x ∈ at_, 0 ≤ x ∧ x < s.N)
  (hK : ∀ s', s'.Ok → s'.N = s.N → s'.base = s.base → s'.ts = s.ts → s'.ns = s.ns ++ names → s'.vs = s.vs ++ at_ → Tri Tryz.prog 155 [.ref bw 0, .ref n.b 0] (hH bw s' n) (HPost bw s' n K (.bool v) [])) :
  Tri Tryz.prog 118 [.ref bw 0, strs names, ints at_, .ref n.b 0] (hH bw s n) (HPost bw s n K (.bool v) []) := by
 have hs0 := hs
 obtain ⟨n1, n2, t1, t2, t3, m1, m2, m3, v1, v2, v3, v4⟩ := hs
 have hlm : (at_.map iav).length = at_.length := lM _
 have hr1 : ∀ y ∈ names.map AV.str, y.size = 1 := all_map fun _ => rfl
 have hr2 : AV.cellsOK (names.map AV.str) = true := ok_all fun _ hy => by obtain ⟨_, _, rfl⟩ := List.mem_map.1 hy; rfl
 have hr3 : ∀ y ∈ at_.map iav, y.size = 1 := all_map fun _ => rfl
 have hr4 : AV.cellsOK (at_.map iav) = true := ok_all fun _ hy => by obtain ⟨_, _, rfl⟩ := List.mem_map.1 hy; rfl
 refine Tri.enter 56 Tryz.func118 rfl rfl rfl rfl fun Fr w0 => ?_
 repeat' (first | refine AW.re 0 1 ?_ | (refine xS 1 2 ?_; refine AL.d (AOp.fr 3) ?_; refine AL.d (AOp.ll 1) ?_; refine AL.d (AOp.len_val (by kernel_rfl) rfl) ?_; refine xN 1 ?_) | fail)
 refine AW.seq ?_
 refine AW.cut (fun af h => ∃ o1 c1 tl1 o2 c2 tl2, af = [(0, .ref bw 0), (3, .ref n.b 0), (9, .int .i64 s.ns.length)] ∧ h = [Own.box bw (.st [.int .i64 s.N, .int .i64 s.base, bfV s.to s.ts.length s.tc, bfV o1 (s.ns.length + (names.map AV.str).length) c1, bfV o2 (s.vs.length + (at_.map iav).length) c2, .bool s.long]), bfO o1 (s.ns.map AV.str ++ names.map AV.str ++ tl1), bfO o2 (s.vs.map iav ++ at_.map iav ++ tl2)] ++ (n.bx :: bfO s.to (tcells s.ts ++ s.tt) :: (s.ts.map TE.row ++ n.rest)) ∧ ((s.ns.map AV.str).length + (names.map AV.str).length + tl1.length = c1 * 1 ∧ (o1 = none → s.ns.length + (names.map AV.str).length = 0 ∧ c1 = 0) ∧ s.ns.length + (names.map AV.str).length ≤ c1) ∧ (s.vs.map iav).length + (at_.map iav).length + tl2.length = c2 * 1 ∧ (o2 = none → s.vs.length + (at_.map iav).length = 0 ∧ c2 = 0) ∧ s.vs.length + (at_.map iav).length ≤ c2) ?_ ?_
 ·repeat' (first | fail)
  refine AW.explore [false, true, false, true, true] [5, 7, 11, 13, 16, 19] rfl (by kernel_rfl) (by kernel_rfl) (by kernel_rfl) (by kernel_rfl) ?_
  refine AQE.ev rfl rfl rfl rfl ?_
  refine AQE.ev rfl rfl rfl rfl ?_
  refine AQE.ev rfl rfl rfl rfl ?_
  refine AQE.ev rfl rfl rfl rfl ?_
  first | refine AQE.op rfl AOp.fa rfl rfl ?_ | refine AQE.op rfl (AOp.fr 3) rfl rfl ?_
  refine AQE.hole rfl rfl ?_
  refine AQE.ev rfl rfl rfl rfl ?_
  refine AQE.hole rfl rfl ?_
  refine AQE.ev rfl rfl rfl rfl ?_
  refine AQE.ev rfl rfl rfl rfl ?_
  first | refine AQE.op rfl AOp.fa rfl rfl ?_ | refine AQE.op rfl (AOp.fr 4) rfl rfl ?_
  refine AQE.hole rfl rfl ?_
  refine AQE.ev rfl rfl rfl rfl ?_
  refine AQE.hole rfl rfl ?_
  refine AQE.ev rfl rfl rfl rfl ?_
  first | refine AQE.op rfl AOp.fa rfl rfl ?_ | refine AQE.op rfl (AOp.fr 3) rfl rfl ?_
  refine AQE.hole rfl rfl ?_
  refine AQE.ev rfl rfl rfl rfl ?_
  first | refine AQE.op rfl AOp.fa rfl rfl ?_ | refine AQE.op rfl (AOp.fr 4) rfl rfl ?_
  refine AQE.hole rfl rfl ?_
  refine AQE.nil ?_
  repeat' (first | refine AX.two (n := 5) 5 11 rfl ?_ ?_ | refine AX.one (n := 4) 5 rfl ?_ | refine AX.two (n := 4) 7 11 rfl ?_ ?_ | refine AX.one (n := 3) 7 rfl ?_ | refine AX.one (n := 3) 11 rfl ?_ | refine AX.one (n := 2) 13 rfl ?_ | refine AX.one (n := 1) 16 rfl ?_ | refine AX.one (n := 0) 19 rfl ?_ | (refine AXS.det (i := 5) rfl rfl rfl (AOp.ll 0) ?_; dsimp only [sA, sB, sC, sD]) | (refine AXS.step (i := 7) rfl rfl rfl (AOp.append_bf 1 1 (o := s.no) (n := s.ns.length) (c := s.nc) (us := s.ns.map AV.str) (tl := s.nt) (ys := names.map AV.str) (m := (names.map AV.str).length) (e := 9) (bytes := 16) rfl rfl (by rw [lM]; omega) (by rw [lM]; omega) m2 (SrcC.ro (v := strs names) rfl rfl hr1) (by omega) hr1 hr2 (by omega) (by kernel_rfl) (by kernel_rfl) (by rw [lM]; omega) (by rw [lM]; omega)) ?_ (by rintro _ _ ⟨_, _, _, e, _⟩; cases e); rintro _ _ ⟨o1, c1, tl1, e, rfl, q1, q2, q3⟩; injection e with e; subst e; dsimp only [sA, sB, sC, sD]) | (refine AXS.det (i := 11) rfl rfl rfl (AOp.ll 0) ?_; dsimp only [sA, sB, sC, sD]) | (refine AXS.step (i := 13) rfl rfl rfl (AOp.append_bf 2 1 (o := s.vo) (n := s.vs.length) (c := s.vc) (us := s.vs.map iav) (tl := s.vt) (ys := at_.map iav) (m := (at_.map iav).length) (e := 3) (bytes := 8) rfl rfl (by rw [lM]; omega) (by rw [lM]; omega) v2 (SrcC.ro (v := ints at_) rfl rfl hr3) (by omega) hr3 hr4 (by omega) (by kernel_rfl) (by kernel_rfl) (by (try rw [lM]); omega) (by (try rw [lM]); omega)) ?_ (by rintro _ _ ⟨_, _, _, e, _⟩; cases e); rintro _ _ ⟨o2, c2, tl2, e, rfl, p1, p2, p3⟩; injection e with e; subst e; dsimp only [sA, sB, sC, sD]) | (refine AXS.at (q := 16) rfl rfl ?_; refine AXO.sl 0 (fun _ => ?_); dsimp only [sA, sB, sC, sD]) | (refine AXS.at (q := 19) rfl rfl ?_; refine AXO.sl 0 (fun _ => ?_); dsimp only [sA, sB, sC, sD]) | fail)
  all_goals refine AX.done_keep [0,3,9] ?_
  all_goals exact AW.meet [0, 3, 9] ⟨o1, c1, tl1, o2, c2, tl2, rfl, rfl, ⟨q1, q2, q3⟩, p1, p2, p3⟩
 rintro _ _ ⟨o1, c1, tl1, o2, c2, tl2, rfl, rfl, ⟨q1, q2, q3⟩, p1, p2, p3⟩
 simp only [lM] at q1 q2 q3 p1 p2 p3
 obtain ⟨s2, hs2⟩ : ∃ s2 : WS, s2 = { s with no := o1, nc := c1, nt := tl1, ns := s.ns ++ names, vo := o2, vc := c2, vt := tl2, vs := s.vs ++ at_ } := ⟨_, rfl⟩
 have ok2 : s2.Ok := by
  subst hs2
  exact ⟨n1, n2, t1, t2, t3, by show (s.ns ++ names).length + tl1.length = c1; rw [lA]; omega, fun h => by show (s.ns ++ names).length = 0 ∧ _; rw [lA]; exact q2 h, by show (s.ns ++ names).length ≤ _; rw [lA]; omega, by show (s.vs ++ at_).length + tl2.length = c2; rw [lA]; omega, fun h => by show (s.vs ++ at_).length = 0 ∧ _; rw [lA]; exact p2 h, by show (s.vs ++ at_).length = (s.ns ++ names).length; rw [lA, lA]; omega, fun x hx => (List.mem_append.1 hx).elim (v4 x) (hat x)⟩
 have hc := hK s2 ok2 (by rw [hs2]) (by rw [hs2]) (by rw [hs2]) (by rw [hs2]) (by rw [hs2])
 refine AW.frame_eq rfl (show _ = [Own.box bw s2.box, bfO s2.no (s2.ns.map AV.str ++ s2.nt), bfO s2.vo (s2.vs.map iav ++ s2.vt)] ++ (n.bx :: bfO s2.to (tcells s2.ts ++ s2.tt) :: (s2.ts.map TE.row ++ n.rest)) from ?_) (AW.perm (permW0 _ _ _ _ _ _) ?_)
 ·subst hs2
  simp only [WS.box, lA, List.map_append, lM]
  try rfl
 repeat' (first | (refine xS 3 2 ?_; (refine AL.callQ rfl rfl hc rfl ?_ ?_; rotate_left; rintro _ _ ⟨e, _⟩; cases e; rintro _ _ ⟨e, s3, n3, rfl, sm, nb, nf, hk⟩; injection e with e; subst e) <;> refine AL.es 1 ?_ <;> refine AL.nil ?_) | fail)
 have hN : s3.N = s.N := by rw [sm.N, hs2]
 have hB : s3.base = s.base := by rw [sm.base, hs2]
 have hts : s3.ts = s.ts := by rw [sm.ts, hs2]
 have hns : s3.ns = s.ns ++ names := by rw [sm.ns, hs2]
 have hvs : s3.vs = s.vs ++ at_ := by rw [sm.vs, hs2]
 obtain ⟨k1, k2, k3, k4, k5, k6, k7, k8, k9, k10, k11, k12⟩ := sm.ok
 have hnl : s3.ns.length = s.ns.length + names.length := by rw [hns, lA]
 have hvl : s3.vs.length = s.vs.length + at_.length := by rw [hvs, lA]
 refine AW.seq ?_
 refine AW.cut (fun af h => af = [(10, .bool v)] ∧ h = [Own.box bw (.st [.int .i64 s3.N, .int .i64 s3.base, bfV s3.to s3.ts.length s3.tc, bfV s3.no s.ns.length s3.nc, bfV s3.vo s.ns.length s3.vc, .bool s3.long])] ++ (n3.bx :: (bfO s3.to (tcells s3.ts ++ s3.tt) :: bfO s3.no (s3.ns.map AV.str ++ s3.nt) :: bfO s3.vo (s3.vs.map iav ++ s3.vt) :: (s3.ts.map TE.row ++ n3.rest)))) ?_ ?_
 ·repeat' (first | fail)
  refine AW.explore [false, true] [5, 7, 11, 13, 16, 19] rfl (by kernel_rfl) (by kernel_rfl) (by kernel_rfl) (by kernel_rfl) ?_
  refine AQE.ev rfl rfl rfl rfl ?_
  refine AQE.ev rfl rfl rfl rfl ?_
  refine AQE.ev rfl rfl rfl rfl ?_
  refine AQE.ev rfl rfl rfl rfl ?_
  first | refine AQE.op rfl AOp.fa rfl rfl ?_ | refine AQE.op rfl (AOp.fr 3) rfl rfl ?_
  refine AQE.hole rfl rfl ?_
  refine AQE.ev rfl rfl rfl rfl ?_
  refine AQE.hole rfl rfl ?_
  refine AQE.ev rfl rfl rfl rfl ?_
  refine AQE.ev rfl rfl rfl rfl ?_
  first | refine AQE.op rfl AOp.fa rfl rfl ?_ | refine AQE.op rfl (AOp.fr 4) rfl rfl ?_
  refine AQE.hole rfl rfl ?_
  refine AQE.ev rfl rfl rfl rfl ?_
  refine AQE.hole rfl rfl ?_
  refine AQE.ev rfl rfl rfl rfl ?_
  first | refine AQE.op rfl AOp.fa rfl rfl ?_ | refine AQE.op rfl (AOp.fr 3) rfl rfl ?_
  refine AQE.hole rfl rfl ?_
  refine AQE.ev rfl rfl rfl rfl ?_
  first | refine AQE.op rfl AOp.fa rfl rfl ?_ | refine AQE.op rfl (AOp.fr 4) rfl rfl ?_
  refine AQE.hole rfl rfl ?_
  refine AQE.nil ?_
  repeat' (first | refine AX.two (n := 5) 5 11 rfl ?_ ?_ | refine AX.two (n := 4) 5 13 rfl ?_ ?_ | refine AX.two (n := 4) 7 11 rfl ?_ ?_ | refine AX.one (n := 3) 5 rfl ?_ | refine AX.two (n := 3) 7 13 rfl ?_ ?_ | refine AX.one (n := 3) 11 rfl ?_ | refine AX.one (n := 2) 7 rfl ?_ | refine AX.two (n := 2) 13 16 rfl ?_ ?_ | refine AX.one (n := 1) 13 rfl ?_ | refine AX.one (n := 1) 16 rfl ?_ | refine AX.one (n := 0) 19 rfl ?_ | (refine AXS.det (i := 5) rfl rfl rfl (AOp.ll 0) ?_; dsimp only [sA, sB, sC, sD]) | (refine AXS.det (i := 7) rfl rfl rfl (AOp.cut_bf (sz := 1) (k := s.ns.length) (by kernel_rfl) rfl (bndIs.some rfl rfl) (by omega)) ?_; dsimp only [sA, sB, sC, sD]) | (refine AXS.det (i := 11) rfl rfl rfl (AOp.ll 0) ?_; dsimp only [sA, sB, sC, sD]) | (refine AXS.det (i := 13) rfl rfl rfl (AOp.cut_bf (sz := 1) (k := s.ns.length) (by kernel_rfl) rfl (bndIs.some rfl rfl) (by omega)) ?_; dsimp only [sA, sB, sC, sD]) | (refine AXS.at (q := 16) rfl rfl ?_; refine AXO.sl 0 (fun _ => ?_); dsimp only [sA, sB, sC, sD]) | (refine AXS.at (q := 19) rfl rfl ?_; refine AXO.sl 0 (fun _ => ?_); dsimp only [sA, sB, sC, sD]) | fail)
  all_goals refine AX.done_keep [10] ?_
  all_goals exact AW.meet [10] ⟨rfl, rfl⟩
 rintro _ _ ⟨rfl, rfl⟩
 obtain ⟨s4, hs4⟩ : ∃ s4 : WS, s4 = { s3 with nt := names.map AV.str ++ s3.nt, ns := s.ns, vt := at_.map iav ++ s3.vt, vs := s.vs } := ⟨_, rfl⟩
 have ok4 : s4.Ok := by
  subst hs4
  exact ⟨k1, k2, k3, k4, k5, by show s.ns.length + (names.map AV.str ++ s3.nt).length = s3.nc; rw [lA, lM]; omega, fun h => ⟨by have := (k7 h).1; show s.ns.length = 0; omega, (k7 h).2⟩, m3, by show s.vs.length + (at_.map iav ++ s3.vt).length = s3.vc; rw [lA, lM]; omega, fun h => ⟨by have := (k10 h).1; show s.vs.length = 0; omega, (k10 h).2⟩, v3, fun x hx => by have := v4 x hx; rw [← hN] at this; exact this⟩
 refine AW.frame_eq rfl (show _ = [Own.box bw s4.box] ++ (n3.bx :: (bfO s4.to (tcells s4.ts ++ s4.tt) :: bfO s4.no (s4.ns.map AV.str ++ s4.nt) :: bfO s4.vo (s4.vs.map iav ++ s4.vt) :: (s4.ts.map TE.row ++ n3.rest))) from ?_) (AW.perm (.swap _ _ _) ?_)
 ·subst hs4
  simp only [WS.box, hns, hvs, List.map_append, List.append_assoc, v3]
  try rfl
 repeat' (first | refine AW.re 5 2 ?_ | fail)
 exact AW.retv rfl ⟨rfl, s4, n3, rfl, ⟨by rw [hs4]; exact hN, by rw [hs4]; exact hB, by rw [hs4]; exact hts, by rw [hs4], by rw [hs4], ok4⟩, nb, nf, hk⟩
theorem w_With_own (bw : Nat) (K : NT → Prop) (v : Bool) (n : NT) (s : WS) (names : List ByteArray) (at_ : List Int) (b c : Nat) (tl : List AV) (hs : s.Ok) (hl : at_.length = names.length) (hn : s.ns.length + names.length ≤ 100000) (hat : ∀ x ∈ at_, 0 ≤ x ∧ x < s.N)
  (hK : ∀ s', s'.Ok → s'.N = s.N → s'.base = s.base → s'.ts = s.ts → s'.ns = s.ns ++ names → s'.vs = s.vs ++ at_ → Tri Tryz.prog 155 [.ref bw 0, .ref n.b 0] (hH bw s' n) (HPost bw s' n K (.bool v) [])) :
  Tri Tryz.prog 118 [.ref bw 0, strs names, .osl b at_.length c, .ref n.b 0] (.row b (at_.map iav ++ tl) :: hH bw s n) (HPost bw s n K (.bool v) [.row b (at_.map iav ++ tl)]) := by
 have hs0 := hs
 obtain ⟨n1, n2, t1, t2, t3, m1, m2, m3, v1, v2, v3, v4⟩ := hs
 have hlm : (at_.map iav).length = at_.length := lM _
 have hr1 : ∀ y ∈ names.map AV.str, y.size = 1 := all_map fun _ => rfl
 have hr2 : AV.cellsOK (names.map AV.str) = true := ok_all fun _ hy => by obtain ⟨_, _, rfl⟩ := List.mem_map.1 hy; rfl
 have hr3 : ∀ y ∈ at_.map iav, y.size = 1 := all_map fun _ => rfl
 have hr4 : AV.cellsOK (at_.map iav) = true := ok_all fun _ hy => by obtain ⟨_, _, rfl⟩ := List.mem_map.1 hy; rfl
 refine Tri.enter 56 Tryz.func118 rfl rfl rfl rfl fun Fr w0 => ?_
 repeat' (first | refine AW.re 0 1 ?_ | (refine xS 1 2 ?_; refine AL.d (AOp.fr 3) ?_; refine AL.d (AOp.ll 2) ?_; refine AL.d (AOp.len_val (by kernel_rfl) rfl) ?_; refine xN 1 ?_) | fail)
 refine AW.seq ?_
 refine AW.cut (fun af h => ∃ o1 c1 tl1 o2 c2 tl2, af = [(0, .ref bw 0), (3, .ref n.b 0), (9, .int .i64 s.ns.length)] ∧ h = [.row b (at_.map iav ++ tl), Own.box bw (.st [.int .i64 s.N, .int .i64 s.base, bfV s.to s.ts.length s.tc, bfV o1 (s.ns.length + (names.map AV.str).length) c1, bfV o2 (s.vs.length + (at_.map iav).length) c2, .bool s.long]), bfO o1 (s.ns.map AV.str ++ names.map AV.str ++ tl1), bfO o2 (s.vs.map iav ++ at_.map iav ++ tl2)] ++ (n.bx :: bfO s.to (tcells s.ts ++ s.tt) :: (s.ts.map TE.row ++ n.rest)) ∧ ((s.ns.map AV.str).length + (names.map AV.str).length + tl1.length = c1 * 1 ∧ (o1 = none → s.ns.length + (names.map AV.str).length = 0 ∧ c1 = 0) ∧ s.ns.length + (names.map AV.str).length ≤ c1) ∧ (s.vs.map iav).length + (at_.map iav).length + tl2.length = c2 * 1 ∧ (o2 = none → s.vs.length + (at_.map iav).length = 0 ∧ c2 = 0) ∧ s.vs.length + (at_.map iav).length ≤ c2) ?_ ?_
 ·repeat' (first | fail)
  refine AW.explore [true, false, true, false, true, true] [5, 7, 11, 13, 16, 19] rfl (by kernel_rfl) (by kernel_rfl) (by kernel_rfl) (by kernel_rfl) ?_
  refine AQE.ev rfl rfl rfl rfl ?_
  refine AQE.ev rfl rfl rfl rfl ?_
  refine AQE.ev rfl rfl rfl rfl ?_
  refine AQE.ev rfl rfl rfl rfl ?_
  first | refine AQE.op rfl AOp.fa rfl rfl ?_ | refine AQE.op rfl (AOp.fr 3) rfl rfl ?_
  refine AQE.hole rfl rfl ?_
  refine AQE.ev rfl rfl rfl rfl ?_
  refine AQE.hole rfl rfl ?_
  refine AQE.ev rfl rfl rfl rfl ?_
  refine AQE.ev rfl rfl rfl rfl ?_
  first | refine AQE.op rfl AOp.fa rfl rfl ?_ | refine AQE.op rfl (AOp.fr 4) rfl rfl ?_
  refine AQE.hole rfl rfl ?_
  refine AQE.ev rfl rfl rfl rfl ?_
  refine AQE.hole rfl rfl ?_
  refine AQE.ev rfl rfl rfl rfl ?_
  first | refine AQE.op rfl AOp.fa rfl rfl ?_ | refine AQE.op rfl (AOp.fr 3) rfl rfl ?_
  refine AQE.hole rfl rfl ?_
  refine AQE.ev rfl rfl rfl rfl ?_
  first | refine AQE.op rfl AOp.fa rfl rfl ?_ | refine AQE.op rfl (AOp.fr 4) rfl rfl ?_
  refine AQE.hole rfl rfl ?_
  refine AQE.nil ?_
  repeat' (first | refine AX.two (n := 5) 5 11 rfl ?_ ?_ | refine AX.one (n := 4) 5 rfl ?_ | refine AX.two (n := 4) 7 11 rfl ?_ ?_ | refine AX.one (n := 3) 7 rfl ?_ | refine AX.one (n := 3) 11 rfl ?_ | refine AX.one (n := 2) 13 rfl ?_ | refine AX.one (n := 1) 16 rfl ?_ | refine AX.one (n := 0) 19 rfl ?_ | (refine AXS.det (i := 5) rfl rfl rfl (AOp.ll 1) ?_; dsimp only [sA, sB, sC, sD]) | (refine AXS.step (i := 7) rfl rfl rfl (AOp.append_bf 2 1 (o := s.no) (n := s.ns.length) (c := s.nc) (us := s.ns.map AV.str) (tl := s.nt) (ys := names.map AV.str) (m := (names.map AV.str).length) (e := 9) (bytes := 16) rfl rfl (by rw [lM]; omega) (by rw [lM]; omega) m2 (SrcC.ro (v := strs names) rfl rfl hr1) (by omega) hr1 hr2 (by omega) (by kernel_rfl) (by kernel_rfl) (by rw [lM]; omega) (by rw [lM]; omega)) ?_ (by rintro _ _ ⟨_, _, _, e, _⟩; cases e); rintro _ _ ⟨o1, c1, tl1, e, rfl, q1, q2, q3⟩; injection e with e; subst e; dsimp only [sA, sB, sC, sD]) | (refine AXS.det (i := 11) rfl rfl rfl (AOp.ll 1) ?_; dsimp only [sA, sB, sC, sD]) | (refine AXS.step (i := 13) rfl rfl rfl (AOp.append_bf 3 1 (o := s.vo) (n := s.vs.length) (c := s.vc) (us := s.vs.map iav) (tl := s.vt) (ys := at_.map iav) (m := (at_.map iav).length) (e := 3) (bytes := 8) rfl rfl (by rw [lM]; omega) (by rw [lM]; omega) v2 (SrcC.own 0 (b := b) (m := (at_.map iav).length) (c := c) (ys := at_.map iav) (rest := tl) (by rw [hlm]; rfl) rfl rfl) (by omega) hr3 hr4 (by omega) (by kernel_rfl) (by kernel_rfl) (by (try rw [lM]); omega) (by (try rw [lM]); omega)) ?_ (by rintro _ _ ⟨_, _, _, e, _⟩; cases e); rintro _ _ ⟨o2, c2, tl2, e, rfl, p1, p2, p3⟩; injection e with e; subst e; dsimp only [sA, sB, sC, sD]) | (refine AXS.at (q := 16) rfl rfl ?_; refine AXO.sl 1 (fun _ => ?_); dsimp only [sA, sB, sC, sD]) | (refine AXS.at (q := 19) rfl rfl ?_; refine AXO.sl 1 (fun _ => ?_); dsimp only [sA, sB, sC, sD]) | fail)
  all_goals refine AX.done_keep [0,3,9] ?_
  all_goals exact AW.meet [0, 3, 9] ⟨o1, c1, tl1, o2, c2, tl2, rfl, rfl, ⟨q1, q2, q3⟩, p1, p2, p3⟩
 rintro _ _ ⟨o1, c1, tl1, o2, c2, tl2, rfl, rfl, ⟨q1, q2, q3⟩, p1, p2, p3⟩
 simp only [lM] at q1 q2 q3 p1 p2 p3
 obtain ⟨s2, hs2⟩ : ∃ s2 : WS, s2 = { s with no := o1, nc := c1, nt := tl1, ns := s.ns ++ names, vo := o2, vc := c2, vt := tl2, vs := s.vs ++ at_ } := ⟨_, rfl⟩
 have ok2 : s2.Ok := by
  subst hs2
  exact ⟨n1, n2, t1, t2, t3, by show (s.ns ++ names).length + tl1.length = c1; rw [lA]; omega, fun h => by show (s.ns ++ names).length = 0 ∧ _; rw [lA]; exact q2 h, by show (s.ns ++ names).length ≤ _; rw [lA]; omega, by show (s.vs ++ at_).length + tl2.length = c2; rw [lA]; omega, fun h => by show (s.vs ++ at_).length = 0 ∧ _; rw [lA]; exact p2 h, by show (s.vs ++ at_).length = (s.ns ++ names).length; rw [lA, lA]; omega, fun x hx => (List.mem_append.1 hx).elim (v4 x) (hat x)⟩
 have hc := Tri.ahead (hK s2 ok2 (by rw [hs2]) (by rw [hs2]) (by rw [hs2]) (by rw [hs2]) (by rw [hs2])) [.row b (at_.map iav ++ tl)]
 refine AW.frame_eq rfl (show _ = [Own.row b (at_.map iav ++ tl), .box bw s2.box, bfO s2.no (s2.ns.map AV.str ++ s2.nt), bfO s2.vo (s2.vs.map iav ++ s2.vt)] ++ (n.bx :: bfO s2.to (tcells s2.ts ++ s2.tt) :: (s2.ts.map TE.row ++ n.rest)) from ?_) (AW.perm (permW1 _ _ _ _ _ _ _) ?_)
 ·subst hs2
  simp only [WS.box, lA, List.map_append, lM]
  try rfl
 repeat' (first | (refine xS 3 2 ?_; (refine AL.callQ rfl rfl hc rfl ?_ ?_; rotate_left; rintro _ _ ⟨_, ⟨e, _⟩, _⟩; cases e; rintro _ _ ⟨_, ⟨e, s3, n3, rfl, sm, nb, nf, hk⟩, rfl⟩; injection e with e; subst e) <;> refine AL.es 1 ?_ <;> refine AL.nil ?_) | fail)
 have hN : s3.N = s.N := by rw [sm.N, hs2]
 have hB : s3.base = s.base := by rw [sm.base, hs2]
 have hts : s3.ts = s.ts := by rw [sm.ts, hs2]
 have hns : s3.ns = s.ns ++ names := by rw [sm.ns, hs2]
 have hvs : s3.vs = s.vs ++ at_ := by rw [sm.vs, hs2]
 obtain ⟨k1, k2, k3, k4, k5, k6, k7, k8, k9, k10, k11, k12⟩ := sm.ok
 have hnl : s3.ns.length = s.ns.length + names.length := by rw [hns, lA]
 have hvl : s3.vs.length = s.vs.length + at_.length := by rw [hvs, lA]
 refine AW.seq ?_
 refine AW.cut (fun af h => af = [(10, .bool v)] ∧ h = [Own.box bw (.st [.int .i64 s3.N, .int .i64 s3.base, bfV s3.to s3.ts.length s3.tc, bfV s3.no s.ns.length s3.nc, bfV s3.vo s.ns.length s3.vc, .bool s3.long])] ++ (.row b (at_.map iav ++ tl) :: n3.bx :: (bfO s3.to (tcells s3.ts ++ s3.tt) :: bfO s3.no (s3.ns.map AV.str ++ s3.nt) :: bfO s3.vo (s3.vs.map iav ++ s3.vt) :: (s3.ts.map TE.row ++ n3.rest)))) ?_ ?_
 ·repeat' (first | fail)
  refine AW.explore [false, false, true] [5, 7, 11, 13, 16, 19] rfl (by kernel_rfl) (by kernel_rfl) (by kernel_rfl) (by kernel_rfl) ?_
  refine AQE.ev rfl rfl rfl rfl ?_
  refine AQE.ev rfl rfl rfl rfl ?_
  refine AQE.ev rfl rfl rfl rfl ?_
  refine AQE.ev rfl rfl rfl rfl ?_
  first | refine AQE.op rfl AOp.fa rfl rfl ?_ | refine AQE.op rfl (AOp.fr 3) rfl rfl ?_
  refine AQE.hole rfl rfl ?_
  refine AQE.ev rfl rfl rfl rfl ?_
  refine AQE.hole rfl rfl ?_
  refine AQE.ev rfl rfl rfl rfl ?_
  refine AQE.ev rfl rfl rfl rfl ?_
  first | refine AQE.op rfl AOp.fa rfl rfl ?_ | refine AQE.op rfl (AOp.fr 4) rfl rfl ?_
  refine AQE.hole rfl rfl ?_
  refine AQE.ev rfl rfl rfl rfl ?_
  refine AQE.hole rfl rfl ?_
  refine AQE.ev rfl rfl rfl rfl ?_
  first | refine AQE.op rfl AOp.fa rfl rfl ?_ | refine AQE.op rfl (AOp.fr 3) rfl rfl ?_
  refine AQE.hole rfl rfl ?_
  refine AQE.ev rfl rfl rfl rfl ?_
  first | refine AQE.op rfl AOp.fa rfl rfl ?_ | refine AQE.op rfl (AOp.fr 4) rfl rfl ?_
  refine AQE.hole rfl rfl ?_
  refine AQE.nil ?_
  repeat' (first | refine AX.two (n := 5) 5 11 rfl ?_ ?_ | refine AX.two (n := 4) 5 13 rfl ?_ ?_ | refine AX.two (n := 4) 7 11 rfl ?_ ?_ | refine AX.one (n := 3) 5 rfl ?_ | refine AX.two (n := 3) 7 13 rfl ?_ ?_ | refine AX.one (n := 3) 11 rfl ?_ | refine AX.one (n := 2) 7 rfl ?_ | refine AX.two (n := 2) 13 16 rfl ?_ ?_ | refine AX.one (n := 1) 13 rfl ?_ | refine AX.one (n := 1) 16 rfl ?_ | refine AX.one (n := 0) 19 rfl ?_ | (refine AXS.det (i := 5) rfl rfl rfl (AOp.ll 0) ?_; dsimp only [sA, sB, sC, sD]) | (refine AXS.det (i := 7) rfl rfl rfl (AOp.cut_bf (sz := 1) (k := s.ns.length) (by kernel_rfl) rfl (bndIs.some rfl rfl) (by omega)) ?_; dsimp only [sA, sB, sC, sD]) | (refine AXS.det (i := 11) rfl rfl rfl (AOp.ll 0) ?_; dsimp only [sA, sB, sC, sD]) | (refine AXS.det (i := 13) rfl rfl rfl (AOp.cut_bf (sz := 1) (k := s.ns.length) (by kernel_rfl) rfl (bndIs.some rfl rfl) (by omega)) ?_; dsimp only [sA, sB, sC, sD]) | (refine AXS.at (q := 16) rfl rfl ?_; refine AXO.sl 0 (fun _ => ?_); dsimp only [sA, sB, sC, sD]) | (refine AXS.at (q := 19) rfl rfl ?_; refine AXO.sl 0 (fun _ => ?_); dsimp only [sA, sB, sC, sD]) | fail)
  all_goals refine AX.done_keep [10] ?_
  all_goals exact AW.meet [10] ⟨rfl, rfl⟩
 rintro _ _ ⟨rfl, rfl⟩
 obtain ⟨s4, hs4⟩ : ∃ s4 : WS, s4 = { s3 with nt := names.map AV.str ++ s3.nt, ns := s.ns, vt := at_.map iav ++ s3.vt, vs := s.vs } := ⟨_, rfl⟩
 have ok4 : s4.Ok := by
  subst hs4
  exact ⟨k1, k2, k3, k4, k5, by show s.ns.length + (names.map AV.str ++ s3.nt).length = s3.nc; rw [lA, lM]; omega, fun h => ⟨by have := (k7 h).1; show s.ns.length = 0; omega, (k7 h).2⟩, m3, by show s.vs.length + (at_.map iav ++ s3.vt).length = s3.vc; rw [lA, lM]; omega, fun h => ⟨by have := (k10 h).1; show s.vs.length = 0; omega, (k10 h).2⟩, v3, fun x hx => by have := v4 x hx; rw [← hN] at this; exact this⟩
 refine AW.frame_eq rfl (show _ = [Own.box bw s4.box] ++ (.row b (at_.map iav ++ tl) :: n3.bx :: (bfO s4.to (tcells s4.ts ++ s4.tt) :: bfO s4.no (s4.ns.map AV.str ++ s4.nt) :: bfO s4.vo (s4.vs.map iav ++ s4.vt) :: (s4.ts.map TE.row ++ n3.rest))) from ?_) (AW.perm (List.Perm.trans (.swap _ _ _) (.cons _ (.swap _ _ _))) ?_)
 ·subst hs4
  simp only [WS.box, hns, hvs, List.map_append, List.append_assoc, v3]
  try rfl
 repeat' (first | refine AW.re 5 2 ?_ | fail)
 exact AW.retv rfl ⟨rfl, s4, n3, rfl, ⟨by rw [hs4]; exact hN, by rw [hs4]; exact hB, by rw [hs4]; exact hts, by rw [hs4], by rw [hs4], ok4⟩, nb, nf, hk⟩
abbrev LT := List (ByteArray × Nat)
mutual
def okF (N : Nat) : GFml → LT → Prop
 | ⟨k, ar, nm, vars, args, kids⟩, L =>
  (k = 0 → ∀ c, lkT L nm = some c → c = N ^ args.length ∧ c ≤ 4096) ∧ (k = 8 ∨ k = 9 → N ^ vars.length ≤ 4096) ∧ (k = 10 → N ^ (vars.length / 2) ≤ 4096) ∧ (k = 11 → N ^ ar.toNat ≤ 16) ∧
  (k ≠ 0 → okFL N kids (if k = 8 ∨ k = 9 then L ++ [(nm, N ^ vars.length)] else if k = 11 then L ++ [(nm, N ^ ar.toNat)] else L))
def okFL (N : Nat) : List GFml → LT → Prop
 | [], _ => True
 | x :: l, L => okF N x L ∧ okFL N l L
end
theorem okF_eq (N : Nat) (f : GFml) (L : LT) : okF N f L = ((f.Kind = 0 → ∀ c, lkT L f.Name = some c → c = N ^ f.Args.length ∧ c ≤ 4096) ∧ (f.Kind = 8 ∨ f.Kind = 9 → N ^ f.Vars.length ≤ 4096) ∧ (f.Kind = 10 → N ^ (f.Vars.length / 2) ≤ 4096) ∧ (f.Kind = 11 → N ^ f.Arity.toNat ≤ 16) ∧
  (f.Kind ≠ 0 → okFL N f.Kids (if f.Kind = 8 ∨ f.Kind = 9 then L ++ [(f.Name, N ^ f.Vars.length)] else if f.Kind = 11 then L ++ [(f.Name, N ^ f.Arity.toNat)] else L))) := by
 cases f; rw [okF]
theorem okFL_mem {N : Nat} {L : LT} : ∀ {l : List GFml}, okFL N l L → ∀ x ∈ l, okF N x L
 | [], _, x, h => by cases h
 | y :: l, h, x, hx => by
  rw [okFL] at h
  rcases List.mem_cons.1 hx with rfl | hx
  ·exact h.1
  ·exact okFL_mem h.2 x hx
theorem lkL_push {L L' : LT} {nm s : ByteArray} {c : Nat} (h : s ≠ nm → lkT L s = lkT L' s) : lkT (L ++ [(nm, c)]) s = lkT (L' ++ [(nm, c)]) s := by
 rw [lkT_snoc, lkT_snoc]
 by_cases e : nm = s
 ·simp [e]
 ·simp only [e, if_false]; exact h fun x => e x.symm
mutual
theorem okF_env (N : Nat) : ∀ (f : GFml) (L L' : LT), (∀ s, ocs s f = true → lkT L s = lkT L' s) → okF N f L → okF N f L'
 | ⟨k, ar, nm, vars, args, kids⟩, L, L', h, ho => by
  rw [okF] at ho ⊢
  obtain ⟨h1, h2, h3, h4, h5⟩ := ho
  refine ⟨fun hk c hc => h1 hk c ?_, h2, h3, h4, fun h0 => ?_⟩
  ·rw [h nm (by rw [ocs, hk]; simp)]; exact hc
  ·have h5 := h5 h0
   have hb : ∀ s, ocsL s kids = true → ((k = 8 ∨ k = 9 ∨ k = 11) → s ≠ nm) → lkT L s = lkT L' s := fun s hs hn => by
    refine h s ?_
    rw [ocs]
    have e0 : (k == 0) = false := by simpa using h0
    rw [e0]
    simp only [cond_false]
    by_cases e : (bindsB ⟨k, ar, nm, vars, args, kids⟩ && decide (nm = s)) = true
    ·exfalso
     simp only [bindsB, bA, Bool.or_eq_true, beq_iff_eq, dT] at e
     exact hn (by rcases e.1 with (e1 | e1) | e1 <;> simp [e1]) e.2.symm
    ·rw [Bool.not_eq_true] at e
     rw [e]; exact hs
   by_cases h8 : k = 8 ∨ k = 9
   ·rw [if_pos h8] at h5 ⊢
    exact okFL_env N kids _ _ (fun s hs => lkL_push fun hn => hb s hs fun _ => hn) h5
   ·rw [if_neg h8] at h5 ⊢
    by_cases h11 : k = 11
    ·rw [if_pos h11] at h5 ⊢
     exact okFL_env N kids _ _ (fun s hs => lkL_push fun hn => hb s hs fun _ => hn) h5
    ·rw [if_neg h11] at h5 ⊢
     exact okFL_env N kids _ _ (fun s hs => hb s hs fun e => by omega) h5
theorem okFL_env (N : Nat) : ∀ (l : List GFml) (L L' : LT), (∀ s, ocsL s l = true → lkT L s = lkT L' s) → okFL N l L → okFL N l L'
 | [], _, _, _, _ => by rw [okFL]; trivial
 | x :: l, L, L', h, ho => by
  rw [okFL] at ho ⊢
  exact ⟨okF_env N x L L' (fun s hs => h s (by rw [ocsL, hs, Bool.true_or])) ho.1, okFL_env N l L L' (fun s hs => h s (by rw [ocsL, hs, Bool.or_true])) ho.2⟩
end
def tl (T : TT) : LT := T.map fun p => (p.1, p.2.length)
theorem tl_push (T : TT) (nm : ByteArray) (X : List Bool) : tl (T ++ [(nm, X)]) = tl T ++ [(nm, X.length)] := by simp [tl]
theorem lkT_tl : ∀ (T : TT) (s : ByteArray), lkT (tl T) s = (lkT T s).map List.length
 | [], _ => rfl
 | p :: T, s => by
  have ih := lkT_tl T s
  unfold tl at ih ⊢
  rw [List.map_cons, lkT, lkT, ih]
  cases lkT T s with
  | some b => rfl
  | none => simp only [Option.map_none]; split <;> rfl
theorem lfpR_len {S : List Bool → List Bool} {m : Nat} (hS : ∀ X, (S X).length = m) : ∀ (k : Nat) (X : List Bool), X.length = m → (lfpR S k X).length = m
 | 0, X, h => h
 | k + 1, X, h => by
  rw [lfpR]
  split
  ·exact h
  ·exact lfpR_len hS k _ (hS X)
theorem pfpR_len {S : List Bool → List Bool} {m : Nat} (hS : ∀ X, (S X).length = m) : ∀ (k : Nat) (seen : List (List Bool)) (X Y : List Bool), X.length = m → pfpR S k seen X = some Y → Y.length = m
 | 0, _, X, Y, _, h => by cases h
 | k + 1, seen, X, Y, hx, h => by
  rw [pfpR] at h
  split at h
  ·rw [← Option.some.inj h]; exact hx
  ·split at h
   ·cases h
   ·split at h
    ·cases h
    ·exact pfpR_len hS k _ _ Y (hS X) h
def stg (N M : Nat) (f : GFml) (T : TT) (V : VV) (X : List Bool) : List Bool := (List.range (N ^ f.Vars.length)).map fun i => semH N M f.Kids (T ++ [(f.Name, X)]) (V ++ f.Vars.zip (tup N f.Vars.length i))
def tcT (N M : Nat) (f : GFml) (T : TT) (V : VV) : List Bool := (List.range (N ^ f.Vars.length)).map fun i => semH N M f.Kids T (V ++ f.Vars.zip (tup N f.Vars.length i))
theorem stg_len (N M : Nat) (f : GFml) (T : TT) (V : VV) (X : List Bool) : (stg N M f T V X).length = N ^ f.Vars.length := by simp [stg]
def fixO (N M : Nat) (f : GFml) (T : TT) (V : VV) : Option (List Bool) :=
 if f.Kind = 8 then some (lfpR (stg N M f T V) (N ^ f.Vars.length + 1) (falses (N ^ f.Vars.length))) else pfpR (stg N M f T V) M [] (falses (N ^ f.Vars.length))
theorem falses_len (m : Nat) : (falses m).length = m := by simp [falses]
theorem fixO_len {N M : Nat} {f : GFml} {T : TT} {V : VV} {X : List Bool} (h : fixO N M f T V = some X) : X.length = N ^ f.Vars.length := by
 unfold fixO at h
 split at h
 ·rw [← Option.some.inj h]; exact lfpR_len (stg_len N M f T V) _ _ (falses_len _)
 ·exact pfpR_len (stg_len N M f T V) _ _ _ _ (falses_len _) h
theorem sem_fix (N M : Nat) (f : GFml) (T : TT) (V : VV) (h : f.Kind = 8 ∨ f.Kind = 9) : sem N M f T V = match fixO N M f T V with | none => false | some X => X.getD (rankI N (f.Args.map (val V)) 0).toNat false := by
 obtain ⟨k, ar, nm, vars, args, kids⟩ := f
 simp only at h
 rcases h with rfl | rfl <;> (rw [sem]; rfl)
theorem sem_tc (N M : Nat) (f : GFml) (T : TT) (V : VV) (h : f.Kind = 10) : sem N M f T V = cloR (fun x y => semH N M f.Kids T (V ++ f.Vars.zip (tup N (f.Vars.length / 2) x ++ tup N (f.Vars.length / 2) y))) (N ^ (f.Vars.length / 2)) (rankI N ((f.Args.map (val V)).take (f.Vars.length / 2)) 0).toNat (N ^ (f.Vars.length / 2)) (rankI N ((f.Args.map (val V)).drop (f.Vars.length / 2)) 0).toNat := by
 obtain ⟨k, ar, nm, vars, args, kids⟩ := f
 simp only at h
 subst h
 rw [sem]; rfl
theorem sem_sec (N M : Nat) (f : GFml) (T : TT) (V : VV) (h : f.Kind = 11) : sem N M f T V = gsR (fun X => semH N M f.Kids (T ++ [(f.Name, X)]) V) (2 ^ (N ^ f.Arity.toNat)) (falses (N ^ f.Arity.toNat)) := by
 obtain ⟨k, ar, nm, vars, args, kids⟩ := f
 simp only at h
 subst h
 rw [sem]; rfl
def aloneOk (f : GFml) (fr : Bool) (names : List ByteArray) : Prop := (fr = true → ∀ s, fvBL s f.Kids = true → s ∈ f.Vars) ∧ (∀ s, ocsL s f.Kids = true → s = f.Name ∨ s ∈ names) ∧ names.length ≤ 100000
def tabOk (N M : Nat) (T0 : TT) (f : GFml) (nn : Bool) (X : List Bool) : Prop :=
 (f.Kind = 8 ∨ f.Kind = 9 → (nn = false → fixO N M f T0 [] = some X) ∧ (nn = true → fixO N M f T0 [] = none)) ∧ (f.Kind = 10 → X = tcT N M f T0 [])
def mOk (N M : Nat) (T0 : TT) (f : GFml) : Mm → Prop
 | .m0 => True
 | .m1 fr names => aloneOk f fr names
 | .m2 fr names nn tab => aloneOk f fr names ∧ fr = true ∧ tabOk N M T0 f nn tab.bits
mutual
def KOk (N M : Nat) (T0 : TT) : NT → Prop
 | .mk b f m kids => mOk N M T0 f m ∧ kids.map NT.f = f.Kids ∧ KOkL N M T0 kids
def KOkL (N M : Nat) (T0 : TT) : List NT → Prop
 | [] => True
 | n :: l => KOk N M T0 n ∧ KOkL N M T0 l
end
theorem KOk_eq (N M : Nat) (T0 : TT) (n : NT) : KOk N M T0 n = (mOk N M T0 n.f n.m ∧ n.kids.map NT.f = n.f.Kids ∧ KOkL N M T0 n.kids) := by
 cases n; rw [KOk]; rfl
theorem KOkL_mem {N M : Nat} {T0 : TT} : ∀ {l : List NT}, KOkL N M T0 l → ∀ x ∈ l, KOk N M T0 x
 | [], _, x, h => by cases h
 | y :: l, h, x, hx => by
  rw [KOkL] at h
  rcases List.mem_cons.1 hx with rfl | hx
  ·exact h.1
  ·exact KOkL_mem h.2 x hx
def Alone (T : TT) (base : Nat) (f : GFml) : Prop := (∀ s, fvBL s f.Kids = true → s ∈ f.Vars) ∧ ∀ s, ocsL s f.Kids = true → s ≠ f.Name → lkT (T.drop base) s = none
theorem alone_lk {T : TT} {base : Nat} {s : ByteArray} (h : lkT (T.drop base) s = none) : lkT T s = lkT (T.take base) s := by
 conv => lhs; rw [← List.take_append_drop base T]
 rw [lkT_app, h]
theorem shsF_kids {f : GFml} (h : shsF f = true) : shsFs f.Kids = true := by
 rw [shsF_eq, bA] at h; exact h.1
theorem alone_sem {N M : Nat} {T : TT} {V : VV} {base : Nat} {f : GFml} (hs : shsF f = true) (h : Alone T base f) (hn : ∀ s, ocsL s f.Kids = true → s = f.Name → False) (t : List Int) (ht : t.length = f.Vars.length) :
  semH N M f.Kids T (V ++ f.Vars.zip t) = semH N M f.Kids (T.take base) ([] ++ f.Vars.zip t) :=
 (sem_envL N M f.Kids _ _ _ _ (shsF_kids hs) (fun s hs' => alone_lk (h.2 s hs' fun e => hn s hs' e)) (VEq.push (f := fun _ => false) (fun s hs' => by cases hs') (fun s hs' hm => (hm (h.1 s hs')).elim) t ht)).1
theorem alone_semX {N M : Nat} {T : TT} {V : VV} {base : Nat} {f : GFml} (hs : shsF f = true) (h : Alone T base f) (X : List Bool) (t : List Int) (ht : t.length = f.Vars.length) :
  semH N M f.Kids (T ++ [(f.Name, X)]) (V ++ f.Vars.zip t) = semH N M f.Kids (T.take base ++ [(f.Name, X)]) ([] ++ f.Vars.zip t) := by
 refine (sem_envL N M f.Kids _ _ _ _ (shsF_kids hs) (fun s hs' => ?_) (VEq.push (f := fun _ => false) (fun s hs' => by cases hs') (fun s hs' hm => (hm (h.1 s hs')).elim) t ht)).1
 rw [lkT_snoc, lkT_snoc]
 by_cases e : f.Name = s
 ·rw [if_pos e, if_pos e]
 ·rw [if_neg e, if_neg e]; exact alone_lk (h.2 s hs' fun x => e x.symm)
theorem alone_stg {N M : Nat} {T : TT} {V : VV} {base : Nat} {f : GFml} (hs : shsF f = true) (h : Alone T base f) (X : List Bool) : stg N M f T V X = stg N M f (T.take base) [] X := by
 unfold stg
 exact List.map_congr_left fun i _ => alone_semX hs h X _ (tup_len _ _ _)
theorem alone_fixO {N M : Nat} {T : TT} {V : VV} {base : Nat} {f : GFml} (hs : shsF f = true) (h : Alone T base f) : fixO N M f T V = fixO N M f (T.take base) [] := by
 unfold fixO
 rw [show stg N M f T V = stg N M f (T.take base) [] from funext fun X => alone_stg hs h X]
theorem alone_tcT {N M : Nat} {T : TT} {V : VV} {base : Nat} {f : GFml} (hs : shsF f = true) (h : Alone T base f) (hn : ∀ s, ocsL s f.Kids = true → s = f.Name → False) : tcT N M f T V = tcT N M f (T.take base) [] := by
 unfold tcT
 exact List.map_congr_left fun i _ => alone_sem hs h hn _ (tup_len _ _ _)
end Go.Proofs.YtlpndgodkkndnaaGreatDoor
