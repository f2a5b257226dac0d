/- The plain law of CodeFast: the polynomial bounds the steps. -/
import Derived.Test.YtdedkpfbfklgbaaC43
namespace Go.Proofs.Ytdedkpfbfklgbaa
open Go.RowKit Go.SX
set_option maxRecDepth 100000
set_option maxHeartbeats 4000000
set_option linter.unusedVariables false
set_option linter.unusedSimpArgs false

/-! ### Few statements -/
theorem wgt_cnt (most : Int) : ∀ (n : Nat) (l : List GStmt), cntL l ≤ n → (∀ x ∈ l, x.Ok) → ∀ a, a ≤ wgtL most l a ∧ (wgtL most l a ≤ most → a + cntL l ≤ wgtL most l a) := by
  intro n
  induction n using Nat.strongRecOn with
  | _ n ih =>
    intro l hn hl
    induction l with
    | nil => intro a; rw [wgtL]; exact ⟨Int.le_refl _, fun _ => by show a + (0 : Nat) ≤ a; omega⟩
    | cons s l ihl =>
      intro a
      have hs := hl s (by simp)
      have hcs := cntS_eq s
      have hcl : cntL (s :: l) = cntS s + cntL l := rfl
      have hw := ownW_le hs
      obtain ⟨_, _, hb, _, he⟩ := hs
      have h1 := ih (cntL s.Body) (by omega) s.Body (Nat.le_refl _) hb (a + ownW s)
      have h2 := ih (cntL s.Else) (by omega) s.Else (Nat.le_refl _) he (wgtL most s.Body (a + ownW s))
      have h3 := ihl (by omega) (fun x hx => hl x (by simp [hx])) (wgtS most s a)
      rw [wgtS_eq] at h3
      rw [wgtL]
      split
      · rw [wgtS_eq]
        exact ⟨by omega, fun h => by have := h3.2 h; have := h2.2 (by omega); have := h1.2 (by omega); omega⟩
      · exact ⟨Int.le_refl _, fun h => by omega⟩
theorem few_cnt {c : GCode} (hc : c.Ok) (h : fewC c 300 = true) : cntL c.Body ≤ 300 := by
  simp only [fewC, Bool.and_eq_true, decide_eq_true_eq] at h
  have := (wgt_cnt 300 (cntL c.Body) c.Body (Nat.le_refl _) hc.2.2.2.2 0).2 h.2
  omega

/-! ### Values -/
def pv (n : Int) : List Int → Int
  | [] => 0
  | a :: p => a + n * pv n p
def sumP : List Int → Int
  | [] => 0
  | a :: p => a + sumP p
theorem sumP_nonneg : ∀ {p : List Int}, PolyOk p → 0 ≤ sumP p
  | [], _ => Int.le_refl _
  | a :: p, h => by have h1 := h a (by simp); have h2 := sumP_nonneg (p := p) fun x hx => h x (by simp [hx]); simp only [sumP]; omega
theorem sumP_mem : ∀ {p : List Int}, PolyOk p → ∀ x ∈ p, x ≤ sumP p
  | [], _, x, h => by cases h
  | a :: p, h, x, hx => by
    have h1 := h a (by simp)
    have h2 : PolyOk p := fun x hx => h x (by simp [hx])
    have h3 := sumP_nonneg h2
    simp only [sumP]
    rcases List.mem_cons.1 hx with rfl | hx
    · omega
    · have := sumP_mem h2 x hx; omega
theorem pv_nonneg {n : Int} (hn : 0 ≤ n) : ∀ {p : List Int}, PolyOk p → 0 ≤ pv n p
  | [], _ => Int.le_refl _
  | a :: p, h => by
    have h1 := h a (by simp)
    have h2 := pv_nonneg hn (p := p) fun x hx => h x (by simp [hx])
    have := Int.mul_nonneg hn h2
    simp only [pv]; omega
theorem joinP_cons (g : Int → Int → Int) (a b : Int) (p q : List Int) : joinP g (a :: p) (b :: q) = min (g a b) 1099511627777 :: joinP g p q := by
  unfold joinP
  have : max (a :: p).length (b :: q).length = max p.length q.length + 1 := by simp only [List.length_cons]; omega
  rw [this, List.range_succ_eq_map, List.map_cons, List.map_map]
  rfl
theorem joinP_nil_cons (g : Int → Int → Int) (b : Int) (q : List Int) : joinP g [] (b :: q) = min (g 0 b) 1099511627777 :: joinP g [] q := by
  unfold joinP
  have : max ([] : List Int).length (b :: q).length = max ([] : List Int).length q.length + 1 := by simp
  rw [this, List.range_succ_eq_map, List.map_cons, List.map_map]
  rfl
theorem joinP_cons_nil (g : Int → Int → Int) (a : Int) (p : List Int) : joinP g (a :: p) [] = min (g a 0) 1099511627777 :: joinP g p [] := by
  unfold joinP
  have : max (a :: p).length ([] : List Int).length = max p.length ([] : List Int).length + 1 := by simp
  rw [this, List.range_succ_eq_map, List.map_cons, List.map_map]
  rfl
theorem joinP_nil (g : Int → Int → Int) : joinP g [] [] = [] := rfl
/-- Sums, where nothing is cut off. -/
theorem plusP_pv (n : Int) : ∀ (p q : List Int), PolyOk p → PolyOk q → sumP p + sumP q ≤ 1099511627777 → pv n (plusP p q) = pv n p + pv n q ∧ sumP (plusP p q) = sumP p + sumP q
  | [], [], _, _, _ => ⟨by simp [plusP, joinP_nil, pv], by simp [plusP, joinP_nil, sumP]⟩
  | [], b :: q, hp, hq, h => by
    have hb := hq b (by simp)
    have hq' : PolyOk q := fun x hx => hq x (by simp [hx])
    have := sumP_nonneg hq'
    simp only [sumP] at h
    have ih := plusP_pv n [] q hp hq' (by simp only [sumP]; omega)
    unfold plusP at ih ⊢
    rw [joinP_nil_cons]
    simp only [pv, sumP] at ih ⊢
    rw [ih.1, ih.2, show min (0 + b) 1099511627777 = b by omega]
    simp
  | a :: p, [], hp, hq, h => by
    have ha := hp a (by simp)
    have hp' : PolyOk p := fun x hx => hp x (by simp [hx])
    have := sumP_nonneg hp'
    simp only [sumP] at h
    have ih := plusP_pv n p [] hp' hq (by simp only [sumP]; omega)
    unfold plusP at ih ⊢
    rw [joinP_cons_nil]
    simp only [pv, sumP] at ih ⊢
    rw [ih.1, ih.2, show min (a + 0) 1099511627777 = a by omega]
    simp
  | a :: p, b :: q, hp, hq, h => by
    have ha := hp a (by simp)
    have hb := hq b (by simp)
    have hp' : PolyOk p := fun x hx => hp x (by simp [hx])
    have hq' : PolyOk q := fun x hx => hq x (by simp [hx])
    have h1 := sumP_nonneg hp'
    have h2 := sumP_nonneg hq'
    simp only [sumP] at h
    have ih := plusP_pv n p q hp' hq' (by omega)
    unfold plusP at ih ⊢
    rw [joinP_cons]
    simp only [pv, sumP] at ih ⊢
    rw [ih.1, ih.2, show min (a + b) 1099511627777 = a + b by omega, Int.mul_add]
    omega
theorem maxP_pv {n : Int} (hn : 0 ≤ n) : ∀ (p q : List Int), PolyOk p → PolyOk q → pv n p ≤ pv n (joinP max p q) ∧ pv n q ≤ pv n (joinP max p q) ∧ sumP (joinP max p q) ≤ sumP p + sumP q
  | [], [], _, _ => ⟨by simp [joinP_nil], by simp [joinP_nil], by simp [joinP_nil, sumP]⟩
  | [], b :: q, hp, hq => by
    have hb := hq b (by simp)
    have hq' : PolyOk q := fun x hx => hq x (by simp [hx])
    have ih := maxP_pv hn [] q hp hq'
    rw [joinP_nil_cons]
    simp only [pv, sumP] at ih ⊢
    have h1 := Int.mul_le_mul_of_nonneg_left ih.1 hn
    have h2 := Int.mul_le_mul_of_nonneg_left ih.2.1 hn
    rw [Int.mul_zero] at h1
    rw [show min (max 0 b) 1099511627777 = b by omega]
    omega
  | a :: p, [], hp, hq => by
    have ha := hp a (by simp)
    have hp' : PolyOk p := fun x hx => hp x (by simp [hx])
    have ih := maxP_pv hn p [] hp' hq
    rw [joinP_cons_nil]
    simp only [pv, sumP] at ih ⊢
    have h1 := Int.mul_le_mul_of_nonneg_left ih.1 hn
    have h2 := Int.mul_le_mul_of_nonneg_left ih.2.1 hn
    rw [Int.mul_zero] at h2
    rw [show min (max a 0) 1099511627777 = a by omega]
    omega
  | a :: p, b :: q, hp, hq => by
    have ha := hp a (by simp)
    have hb := hq b (by simp)
    have hp' : PolyOk p := fun x hx => hp x (by simp [hx])
    have hq' : PolyOk q := fun x hx => hq x (by simp [hx])
    have ih := maxP_pv hn p q hp' hq'
    rw [joinP_cons]
    simp only [pv, sumP] at ih ⊢
    have h1 := Int.mul_le_mul_of_nonneg_left ih.1 hn
    have h2 := Int.mul_le_mul_of_nonneg_left ih.2.1 hn
    rw [show min (max a b) 1099511627777 = max a b by omega]
    omega
theorem zeros_pv (n : Int) (p : List Int) : ∀ k : Nat, pv n (List.replicate k 0 ++ p) = n ^ k * pv n p ∧ sumP (List.replicate k 0 ++ p) = sumP p
  | 0 => ⟨by simp, rfl⟩
  | k + 1 => by
    have ih := zeros_pv n p k
    rw [List.replicate_succ]
    simp only [List.cons_append, pv, sumP]
    rw [ih.1, ih.2]
    refine ⟨?_, by omega⟩
    rw [Int.pow_succ, Int.zero_add, Int.mul_comm (n ^ k) n, Int.mul_assoc]
theorem raisedP_pv (n : Int) (p : List Int) (k : Nat) : pv n (raisedP p k) = n ^ k * pv n p ∧ sumP (raisedP p k) = sumP p := by
  unfold raisedP
  split
  · rename_i h; subst h; simp [pv, sumP]
  · exact zeros_pv n p k

/-! ### Costs -/
mutual
def costS (n : Int) : GStmt → Int
  | ⟨k, f, g, r, nn, nm, fr, lit, regs, body, els⟩ => if k = 7 then n * costL n body else if k = 9 then n ^ nn.toNat * costL n body else if k = 8 then max (costL n body) (costL n els) else 0
def costL (n : Int) : List GStmt → Int
  | [] => 0
  | s :: l => 1 + costS n s + costL n l
end
theorem costS_eq (n : Int) (s : GStmt) : costS n s = if s.Kind = 7 then n * costL n s.Body else if s.Kind = 9 then n ^ s.N.toNat * costL n s.Body else if s.Kind = 8 then max (costL n s.Body) (costL n s.Else) else 0 := by cases s; rfl
theorem costL_nonneg {n : Int} (hn : 0 ≤ n) : ∀ (d : Nat) (l : List GStmt), cntL l ≤ d → 0 ≤ costL n l := by
  intro d
  induction d using Nat.strongRecOn with
  | _ d ih =>
    intro l hd
    induction l with
    | nil => exact Int.le_refl _
    | cons s l ihl =>
      have hcs := cntS_eq s
      have hcl : cntL (s :: l) = cntS s + cntL l := rfl
      have h1 := ih (cntL s.Body) (by omega) s.Body (Nat.le_refl _)
      have h2 := ih (cntL s.Else) (by omega) s.Else (Nat.le_refl _)
      have h3 := ihl (by omega)
      have h4 : 0 ≤ costS n s := by
        rw [costS_eq]
        split
        · exact Int.mul_nonneg hn h1
        · split
          · exact Int.mul_nonneg (Int.pow_nonneg hn) h1
          · split <;> omega
      simp only [costL]; omega
theorem costS_nonneg {n : Int} (hn : 0 ≤ n) (s : GStmt) : 0 ≤ costS n s := by
  have h1 := costL_nonneg hn (cntL s.Body) s.Body (Nat.le_refl _)
  have h2 := costL_nonneg hn (cntL s.Else) s.Else (Nat.le_refl _)
  rw [costS_eq]
  split
  · exact Int.mul_nonneg hn h1
  · split
    · exact Int.mul_nonneg (Int.pow_nonneg hn) h1
    · split <;> omega
theorem time_cost {n : Int} (hn : 0 ≤ n) : ∀ (d : Nat) (l : List GStmt), cntL l ≤ d → d ≤ 50000 → (∀ x ∈ l, NOk x) → ∀ out, PolyOk out → sumP out + cntL l ≤ 1000000 → pv n out + costL n l ≤ pv n (timeL l out) ∧ sumP (timeL l out) ≤ sumP out + cntL l := by
  intro d
  induction d using Nat.strongRecOn with
  | _ d ih =>
    intro l hd hd2 hl
    induction l with
    | nil => intro out ho hs; simp only [timeL, costL]; exact ⟨by omega, by omega⟩
    | cons s l ihl =>
      intro out ho hso
      have hs := hl s (by simp)
      have hcs := cntS_eq s
      have hcl : cntL (s :: l) = cntS s + cntL l := rfl
      have f1 := timeL_facts (cntL s.Body) s.Body (Nat.le_refl _) hs.body [] nil_ok
      have f2 := timeL_facts (cntL s.Else) s.Else (Nat.le_refl _) hs.els [] nil_ok
      have b1 := ih (cntL s.Body) (by omega) s.Body (Nat.le_refl _) (by omega) hs.body [] nil_ok (by simp only [sumP]; omega)
      have b2 := ih (cntL s.Else) (by omega) s.Else (Nat.le_refl _) (by omega) hs.els [] nil_ok (by simp only [sumP]; omega)
      simp only [pv, sumP, Int.zero_add] at b1 b2
      have s1 := sumP_nonneg f1.1
      have s2 := sumP_nonneg f2.1
      have so := sumP_nonneg ho
      have hone : sumP [1] = 1 := rfl
      have hone2 : pv n [1] = 1 := by simp [pv]
      have o1 := plusP_pv n out [1] ho one_ok (by rw [hone]; omega)
      have oo := plusP_ok ho one_ok
      rw [hone] at o1
      rw [hone2] at o1
      have key : pv n out + 1 + costS n s ≤ pv n (timeS s out) ∧ sumP (timeS s out) ≤ sumP out + cntS s ∧ PolyOk (timeS s out) := by
        rw [timeS_eq, costS_eq]
        simp only
        split
        · have r := raisedP_pv n (timeL s.Body []) 1
          have q := plusP_pv n (plusP out [1]) (raisedP (timeL s.Body []) 1) oo (raisedP_ok f1.1) (by rw [o1.2, r.2]; omega)
          rw [q.1, q.2, o1.1, o1.2, r.1, r.2]
          have := Int.mul_le_mul_of_nonneg_left b1.1 hn
          rw [show n ^ 1 = n from Int.pow_one n]
          exact ⟨by omega, by omega, plusP_ok oo (raisedP_ok f1.1)⟩
        · split
          · have r := raisedP_pv n (timeL s.Body []) s.N.toNat
            have q := plusP_pv n (plusP out [1]) (raisedP (timeL s.Body []) s.N.toNat) oo (raisedP_ok f1.1) (by rw [o1.2, r.2]; omega)
            rw [q.1, q.2, o1.1, o1.2, r.1, r.2]
            have := Int.mul_le_mul_of_nonneg_left b1.1 (show 0 ≤ n ^ s.N.toNat from Int.pow_nonneg hn)
            exact ⟨by omega, by omega, plusP_ok oo (raisedP_ok f1.1)⟩
          · split
            · have r := maxP_pv hn (timeL s.Body []) (timeL s.Else []) f1.1 f2.1
              have rj : PolyOk (joinP max (timeL s.Body []) (timeL s.Else [])) := joinP_ok f1.1 f2.1 fun a b h1 h2 => by omega
              have q := plusP_pv n (plusP out [1]) (joinP max (timeL s.Body []) (timeL s.Else [])) oo rj (by rw [o1.2]; omega)
              rw [q.1, q.2, o1.1, o1.2]
              exact ⟨by omega, by omega, plusP_ok oo rj⟩
            · rw [o1.1, o1.2]; exact ⟨by omega, by omega, oo⟩
      have h3 := ihl (by omega) (fun x hx => hl x (by simp [hx])) (timeS s out) key.2.2 (by omega)
      rw [timeL]
      simp only [costL]
      exact ⟨by omega, by omega⟩

/-! ### The steps -/
def noU (l : List GStmt) : Prop := hasL (fun s => decide (s.Kind = 10)) l = false
theorem noU_cons {s : GStmt} {l : List GStmt} (h : noU (s :: l)) : s.Kind ≠ 10 ∧ noU s.Body ∧ noU s.Else ∧ noU l := by
  unfold noU at h ⊢
  simp only [hasL, hasS_eq, Bool.or_eq_false_iff, decide_eq_false_iff_not] at h
  exact ⟨h.1.1.1, h.1.1.2, h.1.2, h.2⟩
def noUT : Task → Prop
  | .s x => x.Kind ≠ 10 ∧ noU x.Body ∧ noU x.Else
  | .l xs => noU xs
  | .e _ xs _ => noU xs
  | .t xs _ => noU xs
  | .r xs _ _ => noU xs
def costT (n : Int) : Task → Int
  | .s x => costS n x
  | .l xs => costL n xs
  | .e _ xs i => ((n.toNat - i : Nat) : Int) * costL n xs
  | .t xs k => n ^ k * costL n xs
  | .r xs k j => (j : Int) * (n ^ k * costL n xs)
theorem Ex.cost {E : Env} (hn : 1 ≤ E.n) {T : Task} {m : MS} {o : Option Int} {m' : MS} (h : Ex E T m o m') : noUT T → m.steps + costT E.n T ≤ E.fuel → o ≠ some 7 ∧ (o = none → m'.steps ≤ m.steps + costT E.n T) := by
  have cn : ∀ l, 0 ≤ costL E.n l := fun l => costL_nonneg (by omega) (cntL l) l (Nat.le_refl _)
  have cs : ∀ s, 0 ≤ costS E.n s := costS_nonneg (by omega)
  induction h with
  | nil => intro hu hf; exact ⟨by simp, fun _ => by simp only [costT, costL]; omega⟩
  | stop h =>
    rename_i x xs m
    intro hu hf
    have := cn xs
    have := cs x
    simp only [costT, costL] at hf
    omega
  | bad h h1 ih =>
    rename_i x xs m e m'
    intro hu hf
    have := cn xs
    obtain ⟨g1, g2, g3, g4⟩ := noU_cons hu
    simp only [costT, costL] at hf ih
    have := ih ⟨g1, g2, g3⟩ (by show m.steps + 1 + _ ≤ _; omega)
    exact ⟨this.1, fun h => by cases h⟩
  | cons h h1 h2 ih1 ih2 =>
    rename_i x xs m m1 o m2
    intro hu hf
    have := cn xs
    obtain ⟨g1, g2, g3, g4⟩ := noU_cons hu
    simp only [costT, costL] at hf ih1 ih2 ⊢
    have k1 := ih1 ⟨g1, g2, g3⟩ (by show m.steps + 1 + _ ≤ _; omega)
    have k2 := k1.2 (by first | exact rfl | trivial)
    have k3 : m1.steps ≤ m.steps + 1 + costS E.n x := k2
    have k4 := ih2 g4 (by omega)
    exact ⟨k4.1, fun h => by have := k4.2 h; omega⟩
  | prim h =>
    rename_i x m
    intro hu hf
    have := cs x
    have := prim_same E.n x m
    exact ⟨by simp, fun _ => by simp only [costT]; omega⟩
  | gbad h h1 => intro hu hf; exact ⟨by simp, fun h => by cases h⟩
  | gok h h1 =>
    rename_i x m
    intro hu hf
    have := cs x
    exact ⟨by simp, fun _ => by simp only [costT, MS.guess]; omega⟩
  | each h h1 ih =>
    rename_i x m o m'
    intro hu hf
    simp only [costT] at hf ih ⊢
    rw [costS_eq, if_pos h] at hf ⊢
    rw [show ((E.n.toNat - 0 : Nat) : Int) = E.n by omega] at ih
    exact ih hu.2.1 hf
  | eend h =>
    rename_i r xs m i
    intro hu hf
    have := Int.mul_nonneg (show (0 : Int) ≤ ((E.n.toNat - i : Nat) : Int) by omega) (cn xs)
    exact ⟨by simp, fun _ => by simp only [costT]; omega⟩
  | ebad h h1 ih =>
    rename_i r xs m e m' i
    intro hu hf
    have := Int.mul_nonneg (show (0 : Int) ≤ ((E.n.toNat - (i + 1) : Nat) : Int) by omega) (cn xs)
    simp only [costT] at hf ih ⊢
    rw [show ((E.n.toNat - i : Nat) : Int) = ((E.n.toNat - (i + 1) : Nat) : Int) + 1 by omega, Int.add_mul, Int.one_mul] at hf
    have k := ih hu (by show m.steps + _ ≤ _; omega)
    exact ⟨k.1, fun h => by cases h⟩
  | estep h h1 h2 ih1 ih2 =>
    rename_i r xs m m1 o m2 i
    intro hu hf
    have := Int.mul_nonneg (show (0 : Int) ≤ ((E.n.toNat - (i + 1) : Nat) : Int) by omega) (cn xs)
    simp only [costT] at hf ih1 ih2 ⊢
    rw [show ((E.n.toNat - i : Nat) : Int) = ((E.n.toNat - (i + 1) : Nat) : Int) + 1 by omega, Int.add_mul, Int.one_mul] at hf ⊢
    have k1 := ih1 hu (by show m.steps + _ ≤ _; omega)
    have k2 : m1.steps ≤ m.steps + costL E.n xs := k1.2 (by first | exact rfl | trivial)
    have k3 := ih2 hu (by omega)
    exact ⟨k3.1, fun h => by have := k3.2 h; omega⟩
  | cond h h1 ih =>
    rename_i x m o m'
    intro hu hf
    simp only [costT] at hf ih ⊢
    rw [costS_eq, if_neg (by omega), if_neg (by omega), if_pos h] at hf ⊢
    have hu' : noU (if flagAt m.flags x.F = true then x.Body else x.Else) := by split; exact hu.2.1; exact hu.2.2
    have hle : costL E.n (if flagAt m.flags x.F = true then x.Body else x.Else) ≤ max (costL E.n x.Body) (costL E.n x.Else) := by split <;> omega
    have k := ih hu' (by omega)
    exact ⟨k.1, fun h => by have := k.2 h; omega⟩
  | t0 h h1 =>
    rename_i x m
    intro hu hf
    have := cs x
    exact ⟨by simp, fun _ => by simp only [costT]; omega⟩
  | t1 h h1 h2 ih =>
    rename_i x m o m'
    intro hu hf
    simp only [costT] at hf ih ⊢
    rw [costS_eq, if_neg (by omega), if_pos h] at hf ⊢
    exact ih hu.2.1 hf
  | tz h1 ih =>
    rename_i xs m o m'
    intro hu hf
    simp only [costT, Int.pow_zero, Int.one_mul] at hf ih ⊢
    exact ih hu hf
  | ts h1 ih =>
    rename_i xs k m o m'
    intro hu hf
    simp only [costT] at hf ih ⊢
    rw [show ((E.n.toNat : Nat) : Int) = E.n by omega] at ih
    rw [Int.pow_succ, Int.mul_comm (E.n ^ k) E.n, Int.mul_assoc] at hf ⊢
    exact ih hu hf
  | rz =>
    rename_i xs k m
    intro hu hf
    exact ⟨by simp, fun _ => by simp only [costT]; omega⟩
  | rbad h1 ih =>
    rename_i xs k j m e m'
    intro hu hf
    simp only [costT] at hf ih ⊢
    have hc := Int.mul_nonneg (show 0 ≤ E.n ^ k from Int.pow_nonneg (by omega)) (cn xs)
    have := Int.mul_nonneg (show (0 : Int) ≤ (j : Int) by omega) hc
    rw [show ((j + 1 : Nat) : Int) = (j : Int) + 1 by omega, Int.add_mul, Int.one_mul] at hf
    have k := ih hu (by omega)
    exact ⟨k.1, fun h => by cases h⟩
  | rstep h1 h2 ih1 ih2 =>
    rename_i xs k j m m1 o m2
    intro hu hf
    simp only [costT] at hf ih1 ih2 ⊢
    have hc := Int.mul_nonneg (show 0 ≤ E.n ^ k from Int.pow_nonneg (by omega)) (cn xs)
    have := Int.mul_nonneg (show (0 : Int) ≤ (j : Int) by omega) hc
    rw [show ((j + 1 : Nat) : Int) = (j : Int) + 1 by omega, Int.add_mul, Int.one_mul] at hf ⊢
    have k1 := ih1 hu (by omega)
    have k2 : m1.steps ≤ m.steps + E.n ^ k * costL E.n xs := k1.2 (by first | exact rfl | trivial)
    have k3 := ih2 hu (by omega)
    exact ⟨k3.1, fun h => by have := k3.2 h; omega⟩
  | ubad h h1 ih => intro hu; exact absurd h hu.1
  | uend h h1 h2 ih => intro hu; exact absurd h hu.1
  | ustop h h1 h2 h3 ih => intro hu; exact absurd h hu.1
  | ustep h h1 h2 h3 h4 ih1 ih2 => intro hu; exact absurd h hu.1
theorem val_pv {n : Int} (hn : 1 ≤ n) : ∀ (p : List Int) (s w w' : Int), PolyOk p → 0 ≤ s → 0 ≤ w → w' = min w 10000001 → valGo n p s w' ≤ 20000 → s + w * pv n p ≤ valGo n p s w'
  | [], s, w, w', _, _, _, _, _ => by simp [pv, valGo]
  | a :: p, s, w, w', hp, hs, hw, hw', h => by
    have ha := hp a (by simp)
    have hp' : PolyOk p := fun x hx => hp x (by simp [hx])
    have hpv := pv_nonneg (n := n) (by omega) hp'
    rw [valGo] at h ⊢
    have h0 : 0 ≤ w' := by omega
    have haw : 0 ≤ a * w' := Int.mul_nonneg ha.1 h0
    have hwn : 0 ≤ w * n := Int.mul_nonneg hw (by omega)
    have hge : w ≤ w * n := by have := Int.mul_le_mul_of_nonneg_left hn hw; omega
    have hge' : w' ≤ w' * n := by have := Int.mul_le_mul_of_nonneg_left hn h0; omega
    have e1 : min (w' * n) 10000001 = min (w * n) 10000001 := by
      rcases Int.le_total w 10000001 with hc | hc
      · have : w' = w := by omega
        rw [this]
      · have : w' = 10000001 := by omega
        omega
    have ih := val_pv hn p (min (s + a * w') 10000001) (w * n) (min (w' * n) 10000001) hp' (by omega) hwn e1 h
    have hx : 0 ≤ w * n * pv n p := Int.mul_nonneg hwn hpv
    have hsum : s + a * w' ≤ 20000 := by omega
    have hmin : min (s + a * w') 10000001 = s + a * w' := by omega
    rw [hmin] at ih h ⊢
    have e2 : a * w' = w * a := by
      by_cases hz : a = 0
      · rw [hz]; simp
      · have h1 : w' ≤ a * w' := by have := Int.mul_le_mul_of_nonneg_right (show 1 ≤ a by omega) h0; omega
        have : w' = w := by omega
        rw [this, Int.mul_comm]
    rw [e2] at ih ⊢
    simp only [pv]
    rw [Int.mul_add, ← Int.mul_assoc]
    omega
theorem timeR_good {c : GCode} (h : (timeR c).2 = 0) : (checkedP c).bad = false ∧ noU c.Body ∧ (timeR c).1 = timeL c.Body [] := by
  unfold timeR at h ⊢
  by_cases hb : (checkedP c).bad = true
  · rw [if_pos hb] at h; simp at h
  · rw [if_neg hb] at h ⊢
    by_cases hu : untilB c.Body = true
    · rw [if_pos hu] at h; simp at h
    · rw [if_neg hu] at h ⊢
      split at h
      · simp at h
      · rename_i hx
        rw [if_neg hx]
        exact ⟨by simpa using hb, by unfold noU; unfold untilB at hu; simpa using hu, rfl⟩
theorem time_small {c : GCode} (hcnt : cntL c.Body ≤ 300) (h : (timeR c).2 = 0) : (∀ x ∈ (timeR c).1, 0 ≤ x ∧ x ≤ 1000000) ∧ PolyOk (timeR c).1 ∧ ∀ n : Int, 1 ≤ n → costL n c.Body ≤ pv n (timeR c).1 := by
  obtain ⟨hb, hu, e⟩ := timeR_good h
  have hno : ∀ x ∈ c.Body, NOk x := fun x hx => ((chk_ok hb).body x hx).nok
  have f := timeL_facts (cntL c.Body) c.Body (Nat.le_refl _) hno [] nil_ok
  rw [e]
  have k : ∀ n : Int, 0 ≤ n → _ := fun n hn => time_cost hn (cntL c.Body) c.Body (Nat.le_refl _) (by omega) hno [] nil_ok (by simp only [sumP]; omega)
  refine ⟨fun x hx => ⟨(f.1 x hx).1, ?_⟩, f.1, fun n hn => ?_⟩
  · have h1 := sumP_mem f.1 x hx
    have h2 := (k 1 (by omega)).2
    simp only [sumP] at h2
    omega
  · have := (k n (by omega)).1
    simp only [pv] at this
    omega
theorem fast_law {c : GCode} {s : GStr} {G : List Bool} {b : Bool} {n g e : Int} (hcnt : cntL c.Body ≤ 300) (ht : (timeR c).2 = 0) (hs : 1 ≤ s.Size) (hv : valGo s.Size (timeR c).1 0 1 ≤ 20000) (h : RunR c s G (valGo s.Size (timeR c).1 0 1) b n g e) : e ≠ 7 ∧ n ≤ valGo s.Size (timeR c).1 0 1 := by
  obtain ⟨hb, hu, _⟩ := timeR_good ht
  obtain ⟨_, t2, t3⟩ := time_small hcnt ht
  have hval := val_pv hs (timeR c).1 0 1 1 t2 (by omega) (by omega) (by omega) hv
  have hc := t3 s.Size hs
  have h0 := costL_nonneg (n := s.Size) (by omega) (cntL c.Body) c.Body (Nat.le_refl _)
  have hcost : costL s.Size c.Body ≤ valGo s.Size (timeR c).1 0 1 := by omega
  generalize valGo s.Size (timeR c).1 0 1 = most at *
  have e1 : (m0 c s).steps = 0 := rfl
  cases h with
  | form => exact ⟨by omega, by omega⟩
  | name => exact ⟨by omega, by omega⟩
  | arg => exact ⟨by omega, by omega⟩
  | size => exact ⟨by omega, by omega⟩
  | ok hok hx =>
    refine ⟨by omega, hx.grow.2.2.1 (by rw [e1]; exact hok.fuel.1)⟩
  | stop hok hx =>
    have k := hx.cost hs hu (by rw [e1]; show 0 + costL s.Size c.Body ≤ most; omega)
    exact ⟨fun h => k.1 (by rw [h]), by omega⟩
end Go.Proofs.Ytdedkpfbfklgbaa
