/- Contracts of the functions, part 3. -/
import Derived.Test.YtlpndgodkkndnaaGreatDoorA2
import Derived.Test.YtlpndgodkkndnaaGreatDoorA2
import Derived.Test.YtlpndgodkkndnaaGreatDoorS3
import Derived.Test.YtlpndgodkkndnaaGreatDoorS2
namespace Go.Proofs.YtlpndgodkkndnaaGreatDoor
open Go.RowKit Go.SX
set_option maxRecDepth 100000
set_option maxHeartbeats 4000000
set_option linter.unusedVariables false
set_option linter.unusedSimpArgs false
def tup (n : Nat) : Nat → Nat → List Int
 | 0, _ => []
 | m + 1, i => tup n m (i / n) ++ [((i % n : Nat) : Int)]
theorem tup_len (n : Nat) : ∀ m i, (tup n m i).length = m
 | 0, _ => rfl
 | m + 1, i => by rw [tup, lA, tup_len n m]; rfl
theorem tup_mem {n : Nat} (hn : 0 < n) : ∀ (m i : Nat) (x : Int), x ∈ tup n m i → 0 ≤ x ∧ x < n
 | 0, _, x, h => by cases h
 | m + 1, i, x, h => by
  rw [tup, List.mem_append] at h
  rcases h with h | h
  ·exact tup_mem hn m _ x h
  ·rw [List.mem_singleton.1 h]
   have := Nat.mod_lt i hn
   omega
def rankI (n : Int) : List Int → Int → Int
 | [], r => r
 | x :: t, r => rankI n t (r * n + x)
theorem tup_app (n : Nat) (hn : 0 < n) (a : Nat) : ∀ (b x y : Nat), y < n ^ b → tup n (a + b) (x * n ^ b + y) = tup n a x ++ tup n b y
 | 0, x, y, h => by
  have : y = 0 := by simpa using h
  subst this
  simp [tup]
 | b + 1, x, y, h => by
  have e : x * n ^ (b + 1) + y = x * n ^ b * n + y := by rw [Nat.pow_succ, Nat.mul_assoc]
  rw [Nat.pow_succ] at h
  have hy : y / n < n ^ b := Nat.div_lt_of_lt_mul (by rw [Nat.mul_comm]; exact h)
  rw [← Nat.add_assoc, tup, tup, e, Nat.add_comm (x * n ^ b * n) y, Nat.add_mul_div_right _ _ hn, Nat.add_mul_mod_self_right, Nat.add_comm (y / n), tup_app n hn a b x (y / n) hy, List.append_assoc]
def nxR (n : Int) : List Int → List Int × Bool
 | [] => ([], false)
 | d :: r => if d + 1 < n then ((d + 1) :: r, true) else (0 :: (nxR n r).1, (nxR n r).2)
theorem nxR_tup {n : Nat} (hn : 0 < n) : ∀ (m i : Nat), i < n ^ m → nxR n (tup n m i).reverse = ((tup n m ((i + 1) % n ^ m)).reverse, decide (i + 1 < n ^ m))
 | 0, i, h => by
  have : i = 0 := by simpa using h
  subst this; rfl
 | m + 1, i, h => by
  rw [Nat.pow_succ] at h ⊢
  have hd := Nat.div_lt_of_lt_mul (by rw [Nat.mul_comm]; exact h : i < n * n ^ m)
  have hm := Nat.mod_lt i hn
  have he := Nat.div_add_mod i n
  rw [tup, tup, List.reverse_append, List.reverse_append]
  simp only [List.reverse_cons, List.reverse_nil, List.nil_append, List.singleton_append]
  rw [nxR]
  by_cases hc : i % n + 1 < n
  ·rw [if_pos (by omega)]
   have h1 : i + 1 < n ^ m * n := by
    have : (i / n + 1) * n ≤ n ^ m * n := Nat.mul_le_mul_right n hd
    rw [Nat.add_mul, Nat.one_mul, Nat.mul_comm] at this
    omega
   have h2 : (i + 1) / n = i / n := by
    rw [← he, Nat.add_assoc, Nat.mul_add_div hn, Nat.mul_add_div hn, Nat.div_eq_of_lt hc, Nat.div_eq_of_lt hm]
   have h3 : (i + 1) % n = i % n + 1 := by
    rw [← he, Nat.add_assoc, Nat.mul_add_mod, Nat.mul_add_mod, Nat.mod_eq_of_lt hc, Nat.mod_eq_of_lt hm]
   rw [Nat.mod_eq_of_lt h1, h2, h3, decide_eq_true h1]
   rfl
  ·rw [if_neg (by omega), nxR_tup hn m (i / n) hd]
   have hi : i + 1 = (i / n + 1) * n := by rw [Nat.add_mul, Nat.one_mul, Nat.mul_comm]; omega
   have h1 : (i + 1) % (n ^ m * n) = ((i / n + 1) % n ^ m) * n := by rw [hi, Nat.mul_mod_mul_right]
   rw [h1, Nat.mul_div_cancel _ hn, Nat.mul_mod_left]
   have h2 : decide (i + 1 < n ^ m * n) = decide (i / n + 1 < n ^ m) := by
    rw [hi]; exact decide_eq_decide.2 (Nat.mul_lt_mul_right hn)
   rw [h2]; rfl
def incB : List Bool → List Bool × Bool
 | [] => ([], false)
 | true :: r => (false :: (incB r).1, (incB r).2)
 | false :: r => (true :: r, true)
def bitV : List Bool → Nat
 | [] => 0
 | b :: r => b.toNat + 2 * bitV r
theorem incB_len : ∀ l, (incB l).1.length = l.length
 | [] => rfl
 | true :: r => by simp [incB, incB_len r]
 | false :: r => by simp [incB]
theorem bitV_lt : ∀ l, bitV l < 2 ^ l.length
 | [] => by simp [bitV]
 | b :: r => by
  have := bitV_lt r
  have hb : b.toNat ≤ 1 := Bool.toNat_le b
  rw [bitV, List.length_cons, Nat.pow_succ]; omega
theorem incB_val : ∀ l, (incB l).2 = true → bitV (incB l).1 = bitV l + 1
 | [], h => by cases h
 | true :: r, h => by
  simp only [incB] at h ⊢
  have := incB_val r h
  simp only [bitV, Bool.toNat_false, Bool.toNat_true]; omega
 | false :: r, h => by simp only [incB, bitV, Bool.toNat_false, Bool.toNat_true]; omega
def lkT {α : Type} : List (ByteArray × α) → ByteArray → Option α
 | [], _ => none
 | p :: r, s => match lkT r s with
  | some b => some b
  | none => if p.1 = s then some p.2 else none
theorem lkT_app {α : Type} (s : ByteArray) : ∀ a b : List (ByteArray × α), lkT (a ++ b) s = match lkT b s with | some x => some x | none => lkT a s
 | [], b => by rw [List.nil_append]; cases lkT b s <;> rfl
 | p :: a, b => by
  rw [List.cons_append, lkT, lkT, lkT_app s a b]
  cases lkT b s <;> rfl
theorem lkT_snoc {α : Type} (a : List (ByteArray × α)) (p : ByteArray × α) (s : ByteArray) : lkT (a ++ [p]) s = if p.1 = s then some p.2 else lkT a s := by
 rw [lkT_app, lkT, lkT]
 by_cases h : p.1 = s <;> simp [h]
abbrev TT := List (ByteArray × List Bool)
abbrev VV := List (ByteArray × Int)
def val (V : VV) (s : ByteArray) : Int := (lkT V s).getD 0
theorem val_snoc (V : VV) (v : ByteArray) (x : Int) (s : ByteArray) : val (V ++ [(v, x)]) s = if v = s then x else val V s := by
 rw [val, lkT_snoc]
 by_cases h : v = s
 ·rw [if_pos h, if_pos h]; rfl
 ·rw [if_neg h, if_neg h]; rfl
def falses (m : Nat) : List Bool := List.replicate m false
def lfpR (S : List Bool → List Bool) : Nat → List Bool → List Bool
 | 0, X => X
 | k + 1, X => if S X = X then X else lfpR S k (S X)
def pfpR (S : List Bool → List Bool) : Nat → List (List Bool) → List Bool → Option (List Bool)
 | 0, _, _ => none
 | k + 1, seen, X => if S X = X then some X else if (seen ++ [X]).contains (S X) = true then none else if 5000 < (seen ++ [X]).length then none else pfpR S k (seen ++ [X]) (S X)
def cloR (R : Nat → Nat → Bool) (L a : Nat) : Nat → Nat → Bool
 | 0, y => y == a
 | k + 1, y => cloR R L a k y || (List.range L).any fun x => cloR R L a k x && R x y
def gsR (P : List Bool → Bool) : Nat → List Bool → Bool
 | 0, t => P t
 | k + 1, t => P t || ((incB t).2 && gsR P k (incB t).1)
mutual
def sem (n M : Nat) : GFml → TT → VV → Bool
 | ⟨k, ar, nm, vars, args, kids⟩, T, V =>
  if k = 0 then (match lkT T nm with | none => false | some bits => bits.getD (rankI n (args.map (val V)) 0).toNat false)
  else if k = 1 then val V (args.getD 0 empB) == val V (args.getD 1 empB)
  else if k = 2 then decide (val V (args.getD 0 empB) < val V (args.getD 1 empB))
  else if k = 3 then !semH n M kids T V
  else if k = 4 then semA n M kids T V
  else if k = 5 then semO n M kids T V
  else if k = 6 then (List.range (n ^ vars.length)).any fun i => semH n M kids T (V ++ vars.zip (tup n vars.length i))
  else if k = 7 then !(List.range (n ^ vars.length)).any fun i => !semH n M kids T (V ++ vars.zip (tup n vars.length i))
  else if k = 8 then (lfpR (fun X => (List.range (n ^ vars.length)).map fun i => semH n M kids (T ++ [(nm, X)]) (V ++ vars.zip (tup n vars.length i))) (n ^ vars.length + 1) (falses (n ^ vars.length))).getD (rankI n (args.map (val V)) 0).toNat false
  else if k = 9 then (match pfpR (fun X => (List.range (n ^ vars.length)).map fun i => semH n M kids (T ++ [(nm, X)]) (V ++ vars.zip (tup n vars.length i))) M [] (falses (n ^ vars.length)) with | none => false | some X => X.getD (rankI n (args.map (val V)) 0).toNat false)
  else if k = 10 then cloR (fun x y => semH n M kids T (V ++ vars.zip (tup n (vars.length / 2) x ++ tup n (vars.length / 2) y))) (n ^ (vars.length / 2)) (rankI n ((args.map (val V)).take (vars.length / 2)) 0).toNat (n ^ (vars.length / 2)) (rankI n ((args.map (val V)).drop (vars.length / 2)) 0).toNat
  else gsR (fun X => semH n M kids (T ++ [(nm, X)]) V) (2 ^ (n ^ ar.toNat)) (falses (n ^ ar.toNat))
def semH (n M : Nat) : List GFml → TT → VV → Bool
 | [], _, _ => false
 | x :: _, T, V => sem n M x T V
def semA (n M : Nat) : List GFml → TT → VV → Bool
 | [], _, _ => true
 | x :: l, T, V => sem n M x T V && semA n M l T V
def semO (n M : Nat) : List GFml → TT → VV → Bool
 | [], _, _ => false
 | x :: l, T, V => sem n M x T V || semO n M l T V
end
theorem semH_one (n M : Nat) (x : GFml) (l : List GFml) (T : TT) (V : VV) : semH n M (x :: l) T V = sem n M x T V := by rw [semH]
theorem shaped_no {f : GFml} (h : shapedP f = true) (h8 : f.Kind = 3 ∨ f.Kind = 4 ∨ f.Kind = 5 ∨ f.Kind = 11) : f.Vars = [] := by
 simp only [shapedP, shp3, bA, dT] at h
 have h2 := h.2.1.2.1.2
 rcases h8 with e | e | e | e <;> (rw [e] at h2; simp [rulesP] at h2; exact h2)
theorem shaped_q1 {f : GFml} (h : shapedP f = true) (h8 : f.Kind = 6 ∨ f.Kind = 7 ∨ f.Kind = 8 ∨ f.Kind = 9 ∨ f.Kind = 10 ∨ f.Kind = 11 ∨ f.Kind = 3) : f.Kids.length = 1 := by
 simp only [shapedP, shp1, bA, dT] at h
 have h1 := h.1.1.1.1.1
 have h2 := h.1.1.1.1.2
 rcases h8 with e | e | e | e | e | e | e <;> (rw [e] at h1 h2; simp [rulesP] at h1 h2; omega)
def VJ (tk0 : List ByteArray) (V V' : VV) (σ : Sb) (tk : List ByteArray) : Prop := ∀ v ∈ tk0, rnS σ v ∈ tk ∧ val V v = val V' (rnS σ v)
theorem VJ.mono {tk0 tk tk' : List ByteArray} {V V' : VV} {σ : Sb} (h : VJ tk0 V V' σ tk) (k : ∀ x ∈ tk, x ∈ tk') : VJ tk0 V V' σ tk' := fun v hv => ⟨k _ (h v hv).1, (h v hv).2⟩
theorem VJ.step {tk0 tk : List ByteArray} {V V' : VV} {σ : Sb} {v w : ByteArray} (x : Int) (h : VJ tk0 V V' σ tk) (hw : w ∉ tk) : VJ tk0 (V ++ [(v, x)]) (V' ++ [(w, x)]) (up1 σ v w) (tk ++ [w]) := by
 intro u hu
 by_cases e : u = v
 ·have e1 : rnS (up1 σ v w) u = w := by rw [rnS, up1, if_pos e]; rfl
  rw [e1, val_snoc, val_snoc, if_pos e.symm, if_pos rfl]
  exact ⟨by simp, rfl⟩
 ·have e1 : rnS (up1 σ v w) u = rnS σ u := by rw [rnS, rnS, up1, if_neg e]
  obtain ⟨h1, h2⟩ := h u hu
  have hne : ¬ w = rnS σ u := fun e => hw (e ▸ h1)
  rw [e1, val_snoc, val_snoc, if_neg (fun e' => e e'.symm), if_neg hne]
  exact ⟨by simp [h1], h2⟩
theorem shaped_eq2 {f : GFml} (h : shapedP f = true) (h8 : f.Kind = 1 ∨ f.Kind = 2) : f.Args.length = 2 := by
 simp only [shapedP, shp3, bA, dT] at h
 have h1 := h.2.1.1.1.1
 have h2 := h.2.1.1.1.2
 rcases h8 with e | e <;> (rw [e] at h1 h2; simp [rulesP] at h1 h2; omega)
theorem shaped_tc {f : GFml} (h : shapedP f = true) (h8 : f.Kind = 10) : f.Vars.length % 2 = 0 := by
 simp only [shapedP, shp2, bA, Bool.not_eq_true', Bool.and_eq_false_iff, dF, Bool.not_eq_false', dT] at h
 rcases h.1.2.2 with e | e
 ·exact (e h8).elim
 ·omega
theorem kind_bd {f : GFml} (h : shapedP f = true) : 0 ≤ f.Kind ∧ f.Kind ≤ 11 := by
 by_cases q : 0 ≤ f.Kind ∧ f.Kind ≤ 11
 ·exact q
 ·exfalso
  have e : rulesP f.Kind = ⟨1, 0, 0, 0, 0, 0, false, false, false⟩ := by
   unfold rulesP
   simp only [show ¬ f.Kind = 0 by omega, show ¬ (f.Kind = 1 ∨ f.Kind = 2) by omega, show ¬ f.Kind = 3 by omega, show ¬ (f.Kind = 4 ∨ f.Kind = 5) by omega, show ¬ (f.Kind = 6 ∨ f.Kind = 7) by omega, show ¬ (f.Kind = 8 ∨ f.Kind = 9) by omega, show ¬ f.Kind = 10 by omega, show ¬ f.Kind = 11 by omega, if_false]
  simp only [shapedP, shp1, e, bA, dT] at h
  omega
mutual
def fvB (s : ByteArray) : GFml → Bool
 | ⟨_, _, _, vars, args, kids⟩ => has args s || (!has vars s && fvBL s kids)
def fvBL (s : ByteArray) : List GFml → Bool
 | [] => false
 | x :: l => fvB s x || fvBL s l
end
def VEq (f : ByteArray → Bool) (V V' : VV) : Prop := ∀ s, f s = true → val V s = val V' s
theorem val_zip_in (V V' : VV) : ∀ (vars : List ByteArray) (ts : List Int), ts.length = vars.length → ∀ s, (s ∉ vars → val V s = val V' s) → val (V ++ vars.zip ts) s = val (V' ++ vars.zip ts) s := by
 intro vars ts hl s h
 unfold val
 rw [lkT_app, lkT_app]
 cases hz : lkT (vars.zip ts) s with
 | some x => rfl
 | none =>
  refine h fun hm => ?_
  have key : ∀ (vars : List ByteArray) (ts : List Int), ts.length = vars.length → s ∈ vars → lkT (vars.zip ts) s ≠ none := by
   intro vars
   induction vars with
   | nil => intro ts _ h; cases h
   | cons v l ih =>
    intro ts ht hm
    cases ts with
    | nil => simp at ht
    | cons t ts =>
     rw [List.zip_cons_cons, lkT]
     cases hr : lkT (l.zip ts) s with
     | some x => simp
     | none =>
      rcases List.mem_cons.1 hm with rfl | hm
      ·simp
      ·exact (ih ts (by simpa using ht) hm hr).elim
  exact key vars ts hl hm hz
theorem map_val_eq {V V' : VV} : ∀ l : List ByteArray, (∀ s ∈ l, val V s = val V' s) → l.map (val V) = l.map (val V')
 | [], _ => rfl
 | x :: l, h => by rw [List.map_cons, List.map_cons, h x (by simp), map_val_eq l (fun s hs => h s (by simp [hs]))]
theorem getD_val {V V' : VV} (l : List ByteArray) (h : ∀ s ∈ l, val V s = val V' s) (i : Nat) (hi : i < l.length) : val V (l.getD i empB) = val V' (l.getD i empB) := by
 rw [List.getD_eq_getElem?_getD, List.getElem?_eq_getElem hi]
 exact h _ (List.getElem_mem hi)
def TEq (f : ByteArray → Bool) (T T' : TT) : Prop := ∀ s, f s = true → lkT T s = lkT T' s
theorem TEq.push {f g : ByteArray → Bool} {T T' : TT} {nm : ByteArray} (h : TEq f T T') (k : ∀ s, g s = true → s ≠ nm → f s = true) (X : List Bool) : TEq g (T ++ [(nm, X)]) (T' ++ [(nm, X)]) := by
 intro s hs
 rw [lkT_snoc, lkT_snoc]
 by_cases e : nm = s
 ·simp [e]
 ·simp only [e, if_false]; exact h s (k s hs fun e' => e e'.symm)
theorem VEq.push {f g : ByteArray → Bool} {V V' : VV} {vars : List ByteArray} (h : VEq f V V') (k : ∀ s, g s = true → s ∉ vars → f s = true) (ts : List Int) (hl : ts.length = vars.length) : VEq g (V ++ vars.zip ts) (V' ++ vars.zip ts) := by
 intro s hs
 exact val_zip_in V V' vars ts hl s fun hn => h s (k s hs hn)
mutual
theorem sem_env (n M : Nat) : ∀ (f : GFml) (T T' : TT) (V V' : VV), shsF f = true → TEq (fun s => ocs s f) T T' → VEq (fun s => fvB s f) V V' → sem n M f T V = sem n M f T' V'
 | ⟨k, ar, nm, vars, args, kids⟩, T, T', V, V', hs, hT, hV => by
  rw [shsF, bA] at hs
  have hkb := kind_bd hs.2
  have hk : k = 0 ∨ k = 1 ∨ k = 2 ∨ k = 3 ∨ k = 4 ∨ k = 5 ∨ k = 6 ∨ k = 7 ∨ k = 8 ∨ k = 9 ∨ k = 10 ∨ k = 11 := by simp only at hkb; omega
  have hva : ∀ s ∈ args, val V s = val V' s := fun s hs => hV s (by simp only [fvB]; rw [has_mem.2 hs]; rfl)
  have hma := map_val_eq args hva
  have hfk : ∀ s, fvBL s kids = true → s ∉ vars → fvB s ⟨k, ar, nm, vars, args, kids⟩ = true := fun s h1 h2 => by
   rw [fvB, h1, has_not.2 h2]; simp
  have hok : ∀ s, ocsL s kids = true → k ≠ 0 → (bindsB ⟨k, ar, nm, vars, args, kids⟩ = true → nm ≠ s) → ocs s ⟨k, ar, nm, vars, args, kids⟩ = true := fun s h1 h2 h3 => by
   rw [ocs, show (k == 0) = false by simpa using h2, cond_false]
   cases hb : bindsB ⟨k, ar, nm, vars, args, kids⟩ with
   | false => exact h1
   | true => rw [decide_eq_false (h3 hb)]; exact h1
  have hL := sem_envL n M kids
  have hplain : k ≠ 0 → bindsB ⟨k, ar, nm, vars, args, kids⟩ = false → TEq (fun s => ocsL s kids) T T' := fun h1 h2 s h => hT s (hok s h h1 (by rw [h2]; intro h; cases h))
  have hbind : k ≠ 0 → ∀ X, TEq (fun s => ocsL s kids) (T ++ [(nm, X)]) (T' ++ [(nm, X)]) := fun h1 X => TEq.push hT (fun s h2 h3 => hok s h2 h1 fun _ => fun e => h3 e.symm) X
  have hvk : ∀ ts : List Int, ts.length = vars.length → VEq (fun s => fvBL s kids) (V ++ vars.zip ts) (V' ++ vars.zip ts) := fun ts hl => VEq.push hV hfk ts hl
  have hv0 : vars = [] → VEq (fun s => fvBL s kids) V V' := fun e => by
   have := hvk [] (by rw [e]; rfl)
   simpa using this
  rw [sem, sem]
  rcases hk with rfl | rfl | rfl | rfl | rfl | rfl | rfl | rfl | rfl | rfl | rfl | rfl
  ·have : lkT T nm = lkT T' nm := hT nm (by simp [ocs])
   simp only [if_true, this, hma]
  ·have h2 := shaped_eq2 hs.2 (.inl rfl)
   simp only at h2
   simp only [getD_val args hva 0 (by omega), getD_val args hva 1 (by omega)]
   rfl
  ·have h2 := shaped_eq2 hs.2 (.inr rfl)
   simp only at h2
   simp only [getD_val args hva 0 (by omega), getD_val args hva 1 (by omega)]
   rfl
  ·simp only [(hL T T' V V' hs.1 (hplain (by omega) rfl) (hv0 (shaped_no hs.2 (by simp)))).1]; rfl
  ·simp only [(hL T T' V V' hs.1 (hplain (by omega) rfl) (hv0 (shaped_no hs.2 (by simp)))).2.1]; rfl
  ·simp only [(hL T T' V V' hs.1 (hplain (by omega) rfl) (hv0 (shaped_no hs.2 (by simp)))).2.2]; rfl
  ·simp only [fun i => (hL T T' _ _ hs.1 (hplain (by omega) rfl) (hvk (tup n vars.length i) (tup_len _ _ _))).1]; rfl
  ·simp only [fun i => (hL T T' _ _ hs.1 (hplain (by omega) rfl) (hvk (tup n vars.length i) (tup_len _ _ _))).1]; rfl
  ·simp only [hma, fun i X => (hL _ _ _ _ hs.1 (hbind (by omega) X) (hvk (tup n vars.length i) (tup_len _ _ _))).1]; rfl
  ·simp only [hma, fun i X => (hL _ _ _ _ hs.1 (hbind (by omega) X) (hvk (tup n vars.length i) (tup_len _ _ _))).1]; rfl
  ·have h2 := shaped_tc hs.2 rfl
   simp only at h2
   simp only [hma, fun x y => (hL T T' _ _ hs.1 (hplain (by omega) rfl) (hvk (tup n (vars.length / 2) x ++ tup n (vars.length / 2) y) (by rw [lA, tup_len, tup_len]; omega))).1]; rfl
  ·simp only [fun X => (hL _ _ V V' hs.1 (hbind (by omega) X) (hv0 (shaped_no hs.2 (by simp)))).1]; rfl
theorem sem_envL (n M : Nat) : ∀ (l : List GFml) (T T' : TT) (V V' : VV), shsFs l = true → TEq (fun s => ocsL s l) T T' → VEq (fun s => fvBL s l) V V' → semH n M l T V = semH n M l T' V' ∧ semA n M l T V = semA n M l T' V' ∧ semO n M l T V = semO n M l T' V'
 | [], T, T', V, V', hs, hT, hV => by simp [semH, semA, semO]
 | x :: l, T, T', V, V', hs, hT, hV => by
  rw [shsFs, bA] at hs
  have h1 := sem_env n M x T T' V V' hs.1 (fun s h => hT s (by simp only [ocsL]; rw [show ocs s x = true from h]; rfl)) (fun s h => hV s (by simp only [fvBL]; rw [show fvB s x = true from h]; rfl))
  have h2 := sem_envL n M l T T' V V' hs.2 (fun s h => hT s (by simp only [ocsL]; rw [show ocsL s l = true from h]; simp)) (fun s h => hV s (by simp only [fvBL]; rw [show fvBL s l = true from h]; simp))
  simp only [semH, semA, semO, h1, h2.2.1, h2.2.2]
  exact ⟨trivial, trivial, trivial⟩
end
def LB (X Y : List Bool) : Prop := ∀ i, X.getD i false = true → Y.getD i false = true
theorem LB.refl (X : List Bool) : LB X X := fun _ h => h
theorem LB.trans {X Y Z : List Bool} (h : LB X Y) (k : LB Y Z) : LB X Z := fun i hi => k i (h i hi)
theorem LB.falses (m : Nat) (Y : List Bool) : LB (falses m) Y := fun i h => by
 unfold Go.Proofs.YtlpndgodkkndnaaGreatDoor.falses at h
 rw [List.getD_eq_getElem?_getD, List.getElem?_replicate] at h
 split at h <;> cases h
def cntB (X : List Bool) : Nat := X.countP id
theorem cnt_lt : ∀ X Y : List Bool, X.length = Y.length → LB X Y → X ≠ Y → cntB X < cntB Y
 | [], [], _, _, h => (h rfl).elim
 | x :: X, [], hl, _, _ => by simp at hl
 | [], y :: Y, hl, _, _ => by simp at hl
 | x :: X, y :: Y, hl, h, hne => by
  have h0 : x = true → y = true := fun e => by have := h 0 (by simpa using e); simpa using this
  have ht : LB X Y := fun i hi => by have := h (i + 1) (by simpa using hi); simpa using this
  have hle : ∀ X Y : List Bool, X.length = Y.length → LB X Y → cntB X ≤ cntB Y := by
   intro X
   induction X with
   | nil => intro Y _ _; simp [cntB]
   | cons a X ih =>
    intro Y hl h
    cases Y with
    | nil => simp at hl
    | cons b Y =>
     have h0 : a = true → b = true := fun e => by have := h 0 (by simpa using e); simpa using this
     have := ih Y (by simpa using hl) (fun i hi => by have := h (i + 1) (by simpa using hi); simpa using this)
     simp only [cntB, List.countP_cons, id] at this ⊢
     cases a <;> cases b <;> simp_all <;> omega
  have hl' : X.length = Y.length := by simpa using hl
  by_cases e : X = Y
  ·subst e
   have hxy : x ≠ y := fun e => hne (by rw [e])
   cases x <;> cases y
   ·exact (hxy rfl).elim
   ·simp [cntB]
   ·have := h0 rfl; cases this
   ·exact (hxy rfl).elim
  ·have h1 := cnt_lt X Y hl' ht e
   simp only [cntB, List.countP_cons, id] at h1 ⊢
   cases x <;> cases y <;> simp_all <;> omega
theorem cnt_le (X : List Bool) : cntB X ≤ X.length := List.countP_le_length
def SM (S : List Bool → List Bool) : Prop := ∀ X Y, LB X Y → LB (S X) (S Y)
theorem lfp_fix {S : List Bool → List Bool} {m : Nat} (hS : SM S) (hm : ∀ X, (S X).length = m) : ∀ (k : Nat) (X : List Bool), X.length = m → LB X (S X) → m - cntB X < k → S (lfpR S k X) = lfpR S k X
 | 0, X, _, _, h => by omega
 | k + 1, X, hl, hX, h => by
  rw [lfpR]
  by_cases e : S X = X
  ·rw [if_pos e]; exact e
  ·rw [if_neg e]
   have h1 := cnt_lt X (S X) (by rw [hl, hm]) hX (fun e' => e e'.symm)
   have h2 := cnt_le (S X)
   rw [hm] at h2
   exact lfp_fix hS hm k (S X) (hm _) (hS _ _ hX) (by omega)
theorem lfp_le {S S' : List Bool → List Bool} {m : Nat} (hS : SM S) (hS' : SM S') (hm' : ∀ X, (S' X).length = m) (h : ∀ X, LB (S X) (S' X)) : ∀ (k : Nat) (X : List Bool), LB X (lfpR S' (m + 1) (falses m)) → LB (lfpR S k X) (lfpR S' (m + 1) (falses m))
 | 0, X, hX => hX
 | k + 1, X, hX => by
  have hf := lfp_fix hS' hm' (m + 1) (falses m) (by simp [falses]) (LB.falses _ _) (by omega)
  rw [lfpR]
  split
  ·exact hX
  ·refine lfp_le hS hS' hm' h k (S X) ?_
   have := (hS _ _ hX).trans (h _)
   rw [hf] at this
   exact this
def TLe (s : ByteArray) (T T' : TT) : Prop := (∀ u, u ≠ s → lkT T u = lkT T' u) ∧ ∃ b b', lkT T s = some b ∧ lkT T' s = some b' ∧ LB b b'
theorem TLe.push {s nm : ByteArray} {T T' : TT} (h : TLe s T T') (hn : nm ≠ s) (X : List Bool) : TLe s (T ++ [(nm, X)]) (T' ++ [(nm, X)]) := by
 refine ⟨fun u hu => ?_, ?_⟩
 ·rw [lkT_snoc, lkT_snoc, h.1 u hu]
 ·obtain ⟨b, b', h1, h2, h3⟩ := h.2
  exact ⟨b, b', by rw [lkT_snoc, if_neg hn, h1], by rw [lkT_snoc, if_neg hn, h2], h3⟩
theorem TLe.self {s : ByteArray} (T : TT) {X Y : List Bool} (h : LB X Y) : TLe s (T ++ [(s, X)]) (T ++ [(s, Y)]) := by
 refine ⟨fun u hu => ?_, X, Y, by rw [lkT_snoc, if_pos rfl], by rw [lkT_snoc, if_pos rfl], h⟩
 rw [lkT_snoc, lkT_snoc, if_neg (fun e => hu e.symm), if_neg (fun e => hu e.symm)]
theorem TLe.out {s : ByteArray} {T T' : TT} (h : TLe s T T') {f : ByteArray → Bool} (hf : f s = false) : TEq f T T' := fun u hu => h.1 u fun e => by rw [e, hf] at hu; cases hu
mutual
theorem pos_part (s : ByteArray) : ∀ (f : GFml) (odd : Bool), posF s f odd true = true → ocs s f = false
 | ⟨k, ar, nm, vars, args, kids⟩, odd, h => by
  rw [posF] at h
  rw [ocs]
  cases k0 : k == 0 with
  | true =>
   rw [k0, cond_true] at h
   rw [cond_true]
   simpa using h
  | false =>
   rw [k0, cond_false] at h
   rw [cond_false]
   cases hb : bindsB ⟨k, ar, nm, vars, args, kids⟩ && decide (nm = s) with
   | true => rfl
   | false =>
    rw [hb, cond_false, Bool.true_or] at h
    exact pos_partL s kids _ h
theorem pos_partL (s : ByteArray) : ∀ (l : List GFml) (odd : Bool), posFs s l odd true = true → ocsL s l = false
 | [], odd, h => by rw [ocsL]
 | x :: l, odd, h => by
  rw [posFs, bA] at h
  rw [ocsL, pos_part s x odd h.1, pos_partL s l odd h.2]; rfl
end
theorem clo_le {R R' : Nat → Nat → Bool} (h : ∀ x y, R x y = true → R' x y = true) (L a : Nat) : ∀ (k y : Nat), cloR R L a k y = true → cloR R' L a k y = true
 | 0, y, hy => hy
 | k + 1, y, hy => by
  rw [cloR, Bool.or_eq_true, List.any_eq_true] at hy
  rw [cloR, Bool.or_eq_true, List.any_eq_true]
  rcases hy with hy | ⟨x, hx, hxy⟩
  ·exact .inl (clo_le h L a k y hy)
  ·rw [bA] at hxy
   exact .inr ⟨x, hx, by rw [bA]; exact ⟨clo_le h L a k x hxy.1, h _ _ hxy.2⟩⟩
theorem gs_le {P P' : List Bool → Bool} (h : ∀ X, P X = true → P' X = true) : ∀ (k : Nat) (t : List Bool), gsR P k t = true → gsR P' k t = true
 | 0, t, ht => h t ht
 | k + 1, t, ht => by
  rw [gsR, Bool.or_eq_true, bA] at ht
  rw [gsR, Bool.or_eq_true, bA]
  rcases ht with ht | ⟨h1, h2⟩
  ·exact .inl (h t ht)
  ·exact .inr ⟨h1, gs_le h k _ h2⟩
theorem any_le {L : Nat} {P Q : Nat → Bool} (h : ∀ i, P i = true → Q i = true) (hp : (List.range L).any P = true) : (List.range L).any Q = true := by
 rw [List.any_eq_true] at hp ⊢
 obtain ⟨i, hi, hpi⟩ := hp
 exact ⟨i, hi, h i hpi⟩
theorem LB_map {L : Nat} {P Q : Nat → Bool} (h : ∀ i, P i = true → Q i = true) : LB ((List.range L).map P) ((List.range L).map Q) := by
 intro i hi
 rw [List.getD_eq_getElem?_getD, List.getElem?_map] at hi ⊢
 cases hr : (List.range L)[i]? with
 | none => rw [hr] at hi; cases hi
 | some j => rw [hr] at hi; exact h j hi
theorem shaped_kids0 {f : GFml} (h : shapedP f = true) (h8 : f.Kind = 1 ∨ f.Kind = 2) : f.Kids = [] := by
 simp only [shapedP, shp1, bA, dT] at h
 have h2 := h.1.1.1.1.2
 rcases h8 with e | e <;> (rw [e] at h2; simp [rulesP] at h2; exact h2)
mutual
theorem sem_mono (n M : Nat) : ∀ (f : GFml) (s : ByteArray) (odd : Bool) (T T' : TT) (V : VV), shsF f = true → grF f = true → posF s f odd false = true → TLe s T T' → (odd = false → sem n M f T V = true → sem n M f T' V = true) ∧ (odd = true → sem n M f T' V = true → sem n M f T V = true)
 | ⟨k, ar, nm, vars, args, kids⟩, s, odd, T, T', V, hs, hg, hp, hT => by
  by_cases hoc : ocs s ⟨k, ar, nm, vars, args, kids⟩ = false
  ·have he := sem_env n M ⟨k, ar, nm, vars, args, kids⟩ T T' V V hs (hT.out hoc) (fun _ _ => rfl)
   rw [he]; exact ⟨fun _ h => h, fun _ h => h⟩
  have hoc : ocs s ⟨k, ar, nm, vars, args, kids⟩ = true := by simpa using hoc
  rw [shsF, bA] at hs
  rw [grF, bA] at hg
  have hkb := kind_bd hs.2
  have hk : k = 0 ∨ k = 1 ∨ k = 2 ∨ k = 3 ∨ k = 4 ∨ k = 5 ∨ k = 6 ∨ k = 7 ∨ k = 8 ∨ k = 9 ∨ k = 10 ∨ k = 11 := by simp only at hkb; omega
  have hL := fun odd T T' V => sem_monoL n M kids s odd T T' V hs.1 hg.2
  rw [posF] at hp
  rw [ocs] at hoc
  rw [sem, sem]
  rcases hk with rfl | rfl | rfl | rfl | rfl | rfl | rfl | rfl | rfl | rfl | rfl | rfl
  ·have hnm : nm = s := by simpa using hoc
   subst hnm
   have ho : odd = false := by simpa using hp
   subst ho
   obtain ⟨b, b', h1, h2, h3⟩ := hT.2
   simp only [if_true, h1, h2]
   exact ⟨fun _ h => h3 _ h, fun h => by cases h⟩
  ·have := shaped_kids0 hs.2 (.inl rfl)
   simp only at this
   rw [this] at hoc
   simp [ocsL, bindsB] at hoc
  ·have := shaped_kids0 hs.2 (.inr rfl)
   simp only at this
   rw [this] at hoc
   simp [ocsL, bindsB] at hoc
  ·have hp' : posFs s kids (!odd) false = true := hp
   have h1 := hL (!odd) T T' V hp' hT
   have hle : 0 < kids.length := by have := shaped_q1 hs.2 (by simp); simp only at this; omega
   constructor
   ·intro ho
    subst ho
    show (!semH n M kids T V) = true → (!semH n M kids T' V) = true
    intro h
    rw [Bool.not_eq_true'] at h ⊢
    cases hx : semH n M kids T' V with
    | false => rfl
    | true => rw [((h1.2 rfl).1 hx)] at h; cases h
   ·intro ho
    subst ho
    show (!semH n M kids T' V) = true → (!semH n M kids T V) = true
    intro h
    rw [Bool.not_eq_true'] at h ⊢
    cases hx : semH n M kids T V with
    | false => rfl
    | true => rw [((h1.1 rfl).1 hx)] at h; cases h
  ·have h1 := hL odd T T' V hp hT
   exact ⟨fun ho => (h1.1 ho).2.1, fun ho => (h1.2 ho).2.1⟩
  ·have h1 := hL odd T T' V hp hT
   exact ⟨fun ho => (h1.1 ho).2.2, fun ho => (h1.2 ho).2.2⟩
  ·have h1 := fun V => hL odd T T' V hp hT
   exact ⟨fun ho => any_le fun i => ((h1 _).1 ho).1, fun ho => any_le fun i => ((h1 _).2 ho).1⟩
  ·have h1 := fun V => hL odd T T' V hp hT
   have hn : ∀ A B : Nat → Bool, (∀ i, A i = true → B i = true) → (!(List.range (n ^ vars.length)).any fun i => !A i) = true → (!(List.range (n ^ vars.length)).any fun i => !B i) = true := by
    intro A B hAB h
    rw [Bool.not_eq_true'] at h ⊢
    cases hx : (List.range (n ^ vars.length)).any fun i => !B i with
    | false => rfl
    | true =>
     rw [any_le (P := fun i => !B i) (Q := fun i => !A i) (fun i hi => by
      rw [Bool.not_eq_true'] at hi ⊢
      cases ha : A i with
      | false => rfl
      | true => rw [hAB i ha] at hi; cases hi) hx] at h
     cases h
   exact ⟨fun ho => hn _ _ fun i => ((h1 _).1 ho).1, fun ho => hn _ _ fun i => ((h1 _).2 ho).1⟩
  ·have hns : nm ≠ s := by
    intro e
    simp [bindsB, e] at hoc
   have hp' : posFs s kids odd false = true := by
    simpa [bindsB, hns] using hp
   have hg1 : posH nm kids = true := by simpa using hg.1
   have hpn : posFs nm kids false false = true := by
    have hl := shaped_q1 hs.2 (by simp)
    simp only at hl
    match kids, hl, hg1 with
    | [x], _, h => rw [posFs, posFs]; rw [posH] at h; rw [h]; rfl
   have hSM : ∀ T, SM (fun X => (List.range (n ^ vars.length)).map fun i => semH n M kids (T ++ [(nm, X)]) (V ++ vars.zip (tup n vars.length i))) := fun T X Y hXY => LB_map fun i => ((sem_monoL n M kids nm false _ _ _ hs.1 hg.2 hpn (TLe.self T hXY)).1 rfl).1
   have hlen : ∀ T X, ((fun X => (List.range (n ^ vars.length)).map fun i => semH n M kids (T ++ [(nm, X)]) (V ++ vars.zip (tup n vars.length i))) X).length = n ^ vars.length := fun T X => by simp
   constructor
   ·intro ho
    have hle := lfp_le (hSM T) (hSM T') (hlen T') (fun X => LB_map fun i => ((hL odd _ _ _ hp' (hT.push hns X)).1 ho).1) (n ^ vars.length + 1) (falses (n ^ vars.length)) (LB.falses _ _)
    exact fun h => hle _ h
   ·intro ho
    have hle := lfp_le (hSM T') (hSM T) (hlen T) (fun X => LB_map fun i => ((hL odd _ _ _ hp' (hT.push hns X)).2 ho).1) (n ^ vars.length + 1) (falses (n ^ vars.length)) (LB.falses _ _)
    exact fun h => hle _ h
  ·exfalso
   have hns : nm ≠ s := by
    intro e
    simp [bindsB, e] at hoc
   have hp' : posFs s kids odd true = true := by
    simpa [bindsB, hns] using hp
   rw [pos_partL s kids odd hp'] at hoc
   simp [bindsB, hns] at hoc
  ·have h1 := fun V => hL odd T T' V hp hT
   exact ⟨fun ho => clo_le (fun x y => ((h1 _).1 ho).1) _ _ _ _, fun ho => clo_le (fun x y => ((h1 _).2 ho).1) _ _ _ _⟩
  ·have hns : nm ≠ s := by
    intro e
    simp [bindsB, e] at hoc
   have hp' : posFs s kids odd false = true := by
    simpa [bindsB, hns] using hp
   exact ⟨fun ho => gs_le (fun X => ((hL odd _ _ _ hp' (hT.push hns X)).1 ho).1) _ _, fun ho => gs_le (fun X => ((hL odd _ _ _ hp' (hT.push hns X)).2 ho).1) _ _⟩
theorem sem_monoL (n M : Nat) : ∀ (l : List GFml) (s : ByteArray) (odd : Bool) (T T' : TT) (V : VV), shsFs l = true → grFs l = true → posFs s l odd false = true → TLe s T T' →
  (odd = false → (semH n M l T V = true → semH n M l T' V = true) ∧ (semA n M l T V = true → semA n M l T' V = true) ∧ (semO n M l T V = true → semO n M l T' V = true)) ∧
  (odd = true → (semH n M l T' V = true → semH n M l T V = true) ∧ (semA n M l T' V = true → semA n M l T V = true) ∧ (semO n M l T' V = true → semO n M l T V = true))
 | [], s, odd, T, T', V, hs, hg, hp, hT => by simp [semH, semA, semO]
 | x :: l, s, odd, T, T', V, hs, hg, hp, hT => by
  rw [shsFs, bA] at hs
  rw [grFs, bA] at hg
  rw [posFs, bA] at hp
  have h1 := sem_mono n M x s odd T T' V hs.1 hg.1 hp.1 hT
  have h2 := sem_monoL n M l s odd T T' V hs.2 hg.2 hp.2 hT
  simp only [semH, semA, semO, bA, Bool.or_eq_true]
  exact ⟨fun ho => ⟨h1.1 ho, fun h => ⟨h1.1 ho h.1, (h2.1 ho).2.1 h.2⟩, fun h => h.imp (h1.1 ho) (h2.1 ho).2.2⟩, fun ho => ⟨h1.2 ho, fun h => ⟨h1.2 ho h.1, (h2.2 ho).2.1 h.2⟩, fun h => h.imp (h1.2 ho) (h2.2 ho).2.2⟩⟩
end
structure TE where
 nm : ByteArray
 ar : Int
 hb : Nat
 bits : List Bool
def TE.av (t : TE) : AV := .st [.str t.nm, .int .i64 t.ar, .osl t.hb t.bits.length t.bits.length]
def TE.cells (t : TE) : List AV := [.str t.nm, .int .i64 t.ar, .osl t.hb t.bits.length t.bits.length]
def TE.row (t : TE) : Own := .row t.hb (t.bits.map bav)
def tcells (ts : List TE) : List AV := ts.flatMap TE.cells
theorem tcells_len : ∀ ts : List TE, (tcells ts).length = 3 * ts.length
 | [] => rfl
 | t :: ts => by
  have := tcells_len ts
  unfold tcells at this ⊢
  rw [List.flatMap_cons, lA, this, List.length_cons]
  simp [TE.cells]; omega
theorem tcells_app (a b : List TE) : tcells (a ++ b) = tcells a ++ tcells b := List.flatMap_append
theorem tcells_get : ∀ (ts : List TE) (i : Nat) (t : TE), ts[i]? = some t → (tcells ts)[3 * i]? = some (.str t.nm) ∧ (tcells ts)[3 * i + 1]? = some (.int .i64 t.ar) ∧ (tcells ts)[3 * i + 2]? = some (.osl t.hb t.bits.length t.bits.length)
 | [], i, t, h => by simp at h
 | u :: ts, 0, t, h => by
  obtain rfl : u = t := by simpa using h
  exact ⟨rfl, rfl, rfl⟩
 | u :: ts, i + 1, t, h => by
  have ih := tcells_get ts i t (by simpa using h)
  unfold tcells at ih ⊢
  rw [List.flatMap_cons, show 3 * (i + 1) = 3 * i + 3 by omega]
  exact ih
structure WS where
 N : Nat
 base : Nat
 long : Bool
 to : Option Nat
 tc : Nat
 tt : List AV
 ts : List TE
 no : Option Nat
 nc : Nat
 nt : List AV
 ns : List ByteArray
 vo : Option Nat
 vc : Nat
 vt : List AV
 vs : List Int
def WS.box (s : WS) : AV := .st [.int .i64 s.N, .int .i64 s.base, bfV s.to s.ts.length s.tc, bfV s.no s.ns.length s.nc, bfV s.vo s.vs.length s.vc, .bool s.long]
def wH (bw : Nat) (s : WS) : AH := .box bw s.box :: bfO s.to (tcells s.ts ++ s.tt) :: bfO s.no (s.ns.map AV.str ++ s.nt) :: bfO s.vo (s.vs.map iav ++ s.vt) :: s.ts.map TE.row
structure WS.Ok (s : WS) : Prop where
 n1 : 1 ≤ s.N
 n2 : s.N ≤ 64
 t1 : s.ts.length * 3 + s.tt.length = s.tc * 3
 t2 : s.to = none → s.ts.length = 0 ∧ s.tc = 0
 t3 : s.ts.length ≤ 10000
 m1 : s.ns.length + s.nt.length = s.nc
 m2 : s.no = none → s.ns.length = 0 ∧ s.nc = 0
 m3 : s.ns.length ≤ 100000
 v1 : s.vs.length + s.vt.length = s.vc
 v2 : s.vo = none → s.vs.length = 0 ∧ s.vc = 0
 v3 : s.vs.length = s.ns.length
 v4 : ∀ x ∈ s.vs, 0 ≤ x ∧ x < s.N
def WS.T (s : WS) : TT := s.ts.map fun t => (t.nm, t.bits)
def WS.V (s : WS) : VV := s.ns.zip s.vs
theorem val_bd {n : Int} (hn : 1 ≤ n) : ∀ (ns : List ByteArray) (vs : List Int), (∀ x ∈ vs, 0 ≤ x ∧ x < n) → ∀ v, 0 ≤ val (ns.zip vs) v ∧ val (ns.zip vs) v < n := by
 intro ns vs hv v
 have key : ∀ (V : VV), (∀ p ∈ V, 0 ≤ p.2 ∧ p.2 < n) → ∀ x, lkT V v = some x → 0 ≤ x ∧ x < n := by
  intro V
  induction V with
  | nil => intro _ x h; cases h
  | cons p V ih =>
   intro hp x h
   rw [lkT] at h
   cases hr : lkT V v with
   | some y => rw [hr] at h; exact ih (fun q hq => hp q (by simp [hq])) x (by rw [hr]; exact h)
   | none =>
    rw [hr] at h
    simp only at h
    split at h
    ·rw [← Option.some.inj h]; exact hp p (by simp)
    ·cases h
 unfold val
 cases hr : lkT (ns.zip vs) v with
 | none => exact ⟨Int.le_refl _, by show (0 : Int) < n; omega⟩
 | some x => exact key _ (fun p hp => hv p.2 (List.of_mem_zip (show (p.1, p.2) ∈ _ from hp)).2) x hr
theorem w_value (bw : Nat) (s : WS) (hs : s.Ok) (nm : ByteArray) : Tri Tryz.prog 177 [.ref bw 0, .str nm] (wH bw s) (D (.int .i64 (val s.V nm)) (wH bw s)) := by
 obtain ⟨_, _, _, _, _, m1, m2, m3, v1, v2, v3, v4⟩ := hs
 have hV : ∀ i x y, s.ns[i]? = some x → s.vs[i]? = some y → s.V.take (i + 1) = s.V.take i ++ [(x, y)] := fun i x y h1 h2 => by
  unfold WS.V
  rw [List.take_add_one]
  congr 1
  rw [(List.getElem?_zip_eq_some (z := (x, y))).2 ⟨h1, h2⟩]; rfl
 have hV0 : s.V.length = s.ns.length := by unfold WS.V; rw [List.length_zip]; omega
 generalize hVV : s.V = V at *
 refine Tri.enter 32 Tryz.func177 rfl rfl rfl rfl fun Fr w0 => ?_
 repeat' (first | refine AW.re 0 1 ?_ | (refine xS 1 2 ?_; refine AL.d (AOp.fr 3) ?_; refine AL.d (AOp.ll 0) ?_; refine AL.d (AOp.len_val (by kernel_rfl) rfl) ?_; refine AL.d (AOp.sub rfl rfl (by omega)) ?_; refine xN 1 ?_) | refine AW.go ?_ | fail)
 refine AW.prune [0, 1, 5] (AW.loop (fun mz af h => ∃ i : Nat, i ≤ s.ns.length ∧ mz = i ∧ af = [(0, .ref bw 0), (1, .str nm), (5, .int .i64 ((i : Int) - 1))] ∧ h = wH bw s ∧ val V nm = val (V.take i) nm) s.ns.length ⟨s.ns.length, Nat.le_refl _, rfl, rfl, rfl, by rw [List.take_of_length_le (by omega)]⟩ ?_)
 rintro mz af h ⟨i, hi, rfl, rfl, rfl, he⟩
 refine AW.seq ?_
 cases mz with
 | zero =>
  rw [he]
  repeat' (first | refine AW.re 2 2 ?_ | refine AW.re 6 1 ?_ | refine AW.jf ?_ | fail)
  all_goals try (exfalso; simp only [dT, dF, lM] at *; omega)
  exact AW.retv rfl ⟨rfl, rfl⟩
 | succ j =>
  obtain ⟨x, hx⟩ := get_lt (show j < s.ns.length by omega)
  obtain ⟨y, hy⟩ := get_lt (show j < s.vs.length by omega)
  obtain ⟨bn, hbn⟩ : ∃ b, s.no = some b := by
   cases h : s.no with
   | none => have := m2 h; omega
   | some b => exact ⟨b, rfl⟩
  obtain ⟨bv, hbv⟩ : ∃ b, s.vo = some b := by
   cases h : s.vo with
   | none => have := v2 h; omega
   | some b => exact ⟨b, rfl⟩
  have e1 : (((j + 1 : Nat) : Int) - 1).toNat * 1 = j := by omega
  have hx2 : (s.ns.map AV.str ++ s.nt)[(((j + 1 : Nat) : Int) - 1).toNat * 1]? = some (.str x) := by
   rw [e1, List.getElem?_append_left (by rw [lM]; omega)]; exact map_get hx
  have hy2 : (s.vs.map iav ++ s.vt)[(((j + 1 : Nat) : Int) - 1).toNat * 1]? = some (iav y) := by
   rw [e1, List.getElem?_append_left (by rw [lM]; omega)]; exact map_get hy
  have hh2 : (wH bw s)[2]? = some (.row bn (s.ns.map AV.str ++ s.nt)) := by
   show some (bfO s.no _) = _; rw [hbn]; rfl
  have hh3 : (wH bw s)[3]? = some (.row bv (s.vs.map iav ++ s.vt)) := by
   show some (bfO s.vo _) = _; rw [hbv]; rfl
  rw [hV j x y hx hy, val_snoc] at he
  have hA1 : bfA s.no = some ⟨bn, 0, none⟩ := by rw [hbn]; rfl
  have hA2 : bfA s.vo = some ⟨bv, 0, none⟩ := by rw [hbv]; rfl
  repeat' (first | refine AW.re 2 2 ?_ | (refine xS 4 2 ?_; refine AL.d (AOp.fr 3) ?_; refine AL.d (AOp.ll 0) ?_; refine AL.es 1 ?_; refine AL.d (AOp.index_val 1 rfl hA1 rfl (by omega) (by omega) (by kernel_rfl)) ?_; refine AL.d (AOp.load_cell 2 rfl hh2 hx2 rfl (by kernel_rfl)) ?_; refine xN 2 ?_) | refine AW.jj (fun hb => ?_) (fun hb => ?_) | refine AW.go ?_ | fail)
  all_goals try (exfalso; simp only [dT, dF, lM] at *; omega)
  all_goals rw [toList_beq] at hb
  ·have h : x = nm := by simpa using hb
   rw [if_pos h] at he
   repeat' (first | (refine xS 5 2 ?_; refine AL.d (AOp.fr 4) ?_; refine AL.d (AOp.ll 0) ?_; refine AL.es 1 ?_; refine AL.d (AOp.index_val 1 rfl hA2 rfl (by omega) (by omega) (by kernel_rfl)) ?_; refine AL.d (AOp.load_cell 3 rfl hh3 hy2 rfl (by kernel_rfl)) ?_; refine xN 1 ?_) | fail)
   exact AW.retv rfl ⟨by rw [he]; rfl, rfl⟩
  ·have h : ¬ x = nm := by simpa using hb
   rw [if_neg h] at he
   repeat' (first | (refine xS 3 1 ?_; refine AL.d (AOp.sub rfl rfl (by omega)) ?_; refine xN 1 ?_) | fail)
   exact AW.again_keep j [0, 1, 5] (by omega) ⟨j, by omega, rfl, by simp only [show (((j + 1 : Nat) : Int) - 1) = (j : Int) by omega]; rfl, rfl, he⟩
theorem set_mid {α : Type} (a r : List α) (x y : α) (i : Nat) (h : a.length = i) : (a ++ x :: r).set i y = a ++ y :: r := by
 subst h; simp
theorem w_Values (bw : Nat) (s : WS) (hs : s.Ok) (names : List ByteArray) (hl : names.length ≤ 100000) : Tri Tryz.prog 176 [.ref bw 0, strs names] (wH bw s) (D (ints (names.map (val s.V))) (wH bw s)) := by
 have hMx : (some (AV.int .i64 (names.map AV.str).length)) = some (.int .i64 (names.length : Nat)) := by rw [lM]
 have hv := fun nm => w_value bw s hs nm
 generalize hVV : s.V = V at *
 refine Tri.enter 26 Tryz.func176 rfl rfl rfl rfl fun Fr w0 => ?_
 repeat' (first | refine AW.re 0 1 ?_ | refine AW.go ?_ | fail)
 repeat' (first | (refine xS 1 2 ?_; refine AL.makeSlice (n := names.length) (e := 3) (c := .int .i64 0) (z := .int .i64 0) (bytes := 8) hMx hMx (by kernel_rfl) rfl (by omega) (by omega) rfl fun b => ?_; refine xN 1 ?_) | refine AW.re 2 1 ?_ | refine AW.go ?_ | fail)
 refine AW.prune [0, 1, 5, 6] (AW.loop (fun mz af h => ∃ (i : Nat) (o : List Int), i ≤ names.length ∧ mz = names.length - i ∧ af = [(0, .ref bw 0), (1, strs names), (5, .osl b names.length names.length), (6, .int .i64 i)] ∧ h = .row b (o.map iav ++ List.replicate (names.length - i) (.int .i64 0)) :: wH bw s ∧ o = (names.take i).map (val V)) names.length ⟨0, [], Nat.zero_le _, rfl, rfl, rfl, by simp⟩ ?_)
 rintro mz af h ⟨i, o, hi, rfl, rfl, rfl, he⟩
 refine AW.seq ?_
 by_cases hlt : i < names.length
 ·obtain ⟨x, hx⟩ := get_lt hlt
  have hx' : (names.map AV.str)[((i : Nat) : Int).toNat]? = some (.str x) := map_get hx
  have hol : o.length = i := by rw [he, lM, List.length_take]; omega
  have hc := tailD (hv x) [.row b (o.map iav ++ List.replicate (names.length - i) (.int .i64 0))]
  rw [show names.length - i = (names.length - (i + 1)) + 1 by omega, List.replicate_succ] at hc ⊢
  repeat' (first | refine AW.re 3 4 ?_ | refine AW.jj (fun hb => ?_) (fun hb => ?_) | refine AW.go ?_ | fail)
  all_goals try (exfalso; simp only [dT, dF, lM] at *; omega)
  repeat' (first | (refine xS 5 5 ?_; refine AL.d (iX hx') ?_; refine AL.es 1 ?_; refine AL.d (AOp.call rfl rfl hc) ?_; refine AL.d (AOp.index_osl rfl rfl (by omega) (by omega) (by kernel_rfl)) ?_; refine AL.store_cell 0 rfl rfl rfl (by simp; omega) rfl rfl (by kernel_rfl) ?_ <;> refine AL.nil ?_) | refine AW.go ?_ | fail)
  have hset : (o.map iav ++ AV.int .i64 0 :: List.replicate (names.length - (i + 1)) (.int .i64 0)).set ((i : Nat) : Int).toNat (.int .i64 (val V x)) = (o ++ [val V x]).map iav ++ List.replicate (names.length - (i + 1)) (.int .i64 0) := by
   rw [Int.toNat_natCast, set_mid _ _ _ _ _ (by rw [lM, hol]), List.map_append]; simp [iav]
  refine AW.frame_eq rfl (show _ = .row b ((o ++ [val V x]).map iav ++ List.replicate (names.length - (i + 1)) (.int .i64 0)) :: wH bw s from by rw [← hset]; rfl) ?_
  repeat' (first | (refine xS 4 1 ?_; refine AL.d AOp.ad ?_; refine xN 1 ?_) | fail)
  refine AW.again_keep (names.length - (i + 1)) [0, 1, 5, 6] (by omega) ⟨i + 1, o ++ [val V x], hlt, rfl, rfl, rfl, ?_⟩
  rw [he, List.take_add_one, hx]; simp
 ·have hi' : i = names.length := by omega
  subst hi'
  have ho2 : o = names.map (val V) := by rw [he, List.take_of_length_le (Nat.le_refl _)]
  rw [Nat.sub_self, List.replicate_zero, List.append_nil]
  repeat' (first | refine AW.re 3 4 ?_ | refine AW.jj (fun hb => ?_) (fun hb => ?_) | refine AW.go ?_ | fail)
  all_goals try (exfalso; simp only [dT, dF, lM] at *; omega)
  refine AW.freeze_row 0 5 rfl rfl (by rw [ho2]; simp) (all_map fun _ => rfl) ?_
  repeat' (first | refine AW.re 6 2 ?_ | fail)
  exact AW.retv rfl ⟨by rw [ho2]; rfl, rfl⟩
theorem powle {n : Nat} (hn : 1 ≤ n) {a b : Nat} (h : a ≤ b) : n ^ a ≤ n ^ b := Nat.pow_le_pow_right hn h
theorem rankI_bd {n : Nat} (hn : 1 ≤ n) : ∀ (t : List Int) (i : Nat) (r : Int), (∀ x ∈ t, 0 ≤ x ∧ x < n) → 0 ≤ r → r < (n ^ i : Nat) → 0 ≤ rankI n t r ∧ rankI n t r < (n ^ (i + t.length) : Nat)
 | [], i, r, _, h0, h1 => ⟨h0, h1⟩
 | x :: t, i, r, ht, h0, h1 => by
  have hx := ht x (by simp)
  have h2 : r * n + x < (n ^ (i + 1) : Nat) := by
   rw [Nat.pow_succ, Int.natCast_mul]
   have := Int.mul_le_mul_of_nonneg_right (show r + 1 ≤ (n ^ i : Nat) by omega) (show (0 : Int) ≤ n by omega)
   rw [Int.add_mul] at this; omega
  have h3 : 0 ≤ r * n + x := by have := Int.mul_nonneg h0 (show (0 : Int) ≤ n by omega); omega
  have := rankI_bd hn t (i + 1) (r * n + x) (fun y hy => ht y (by simp [hy])) h3 h2
  rw [rankI, List.length_cons, show i + (t.length + 1) = i + 1 + t.length by omega]
  exact this
theorem ref_rank3 (n : Nat) (hn : 1 ≤ n ∧ n ≤ 64) (t : List Int) (hl : t.length ≤ 60) (ht : ∀ x ∈ t, 0 ≤ x ∧ x < n) (hp : n ^ t.length ≤ 4096) : Tri Tryz.prog 174 [.int .i64 n, ints t] [] (D (.int .i64 (rankI n t 0)) []) := by
 refine Tri.enter 22 Tryz.func174 rfl rfl rfl rfl fun Fr w0 => ?_
 repeat' (first | refine AW.re 0 1 ?_ | refine AW.re 1 1 ?_ | refine AW.re 2 1 ?_ | refine AW.go ?_ | fail)
 refine AW.prune [0, 1, 5, 6] (AW.loop (fun mz af h => ∃ (i : Nat) (r : Int), i ≤ t.length ∧ mz = t.length - i ∧ af = [(0, .int .i64 n), (1, ints t), (5, .int .i64 r), (6, .int .i64 i)] ∧ h = [] ∧ (0 ≤ r ∧ r < (n ^ i : Nat) ∧ rankI n t 0 = rankI n (t.drop i) r)) t.length ⟨0, 0, Nat.zero_le _, rfl, rfl, rfl, ⟨by omega, by simp, rfl⟩⟩ ?_)
 rintro mz af h ⟨i, r, hi, rfl, rfl, rfl, he⟩
 refine AW.seq ?_
 by_cases hlt : i < t.length
 all_goals obtain ⟨r0, r1, he⟩ := he
 ·obtain ⟨x, hx⟩ := get_lt hlt
  have hx' : (t.map iav)[((i : Nat) : Int).toNat]? = some (iav x) := map_get hx
  have hxr := ht x (lG hx)
  rw [drop_cons hx, rankI] at he
  have h3 : r * n + n ≤ (n ^ (i + 1) : Nat) := by
   rw [Nat.pow_succ, Int.natCast_mul]
   have := Int.mul_le_mul_of_nonneg_right (show r + 1 ≤ (n ^ i : Nat) by omega) (show (0 : Int) ≤ n by omega)
   rw [Int.add_mul] at this; omega
  have hle := powle hn.1 (show i + 1 ≤ t.length by omega)
  have hnn : 0 ≤ r * n := Int.mul_nonneg r0 (by omega)
  repeat' (first | refine AW.re 3 4 ?_ | (refine xS 5 2 ?_; refine AL.d (AOp.mul rfl rfl (by omega)) ?_; refine AL.es 2 ?_; refine AL.d (iX hx') ?_; refine AL.es 1 ?_; refine AL.d AOp.ad ?_; refine xN 1 ?_) | (refine xS 4 1 ?_; refine AL.d AOp.ad ?_; refine xN 1 ?_) | refine AW.jj (fun hb => ?_) (fun hb => ?_) | refine AW.go ?_ | fail)
  all_goals try (exfalso; simp only [dT, dF, lM] at *; omega)
  exact AW.again_keep (t.length - (i + 1)) [0, 1, 5, 6] (by omega) ⟨i + 1, _, hlt, rfl, rfl, rfl, by omega, by omega, he⟩
 ·rw [List.drop_eq_nil_of_le (by omega), rankI] at he
  repeat' (first | refine AW.re 3 4 ?_ | refine AW.re 6 2 ?_ | refine AW.jj (fun hb => ?_) (fun hb => ?_) | refine AW.go ?_ | fail)
  all_goals try (exfalso; simp only [dT, dF, lM] at *; omega)
  exact AW.retv rfl ⟨by rw [he], rfl⟩
theorem w_in (bw : Nat) (s : WS) (hs : s.Ok) (nm : ByteArray) (t : List Int) (hl : t.length ≤ 60) (ht : ∀ x ∈ t, 0 ≤ x ∧ x < s.N) (hbits : ∀ bits, lkT s.T nm = some bits → s.N ^ t.length ≤ 4096 ∧ bits.length = s.N ^ t.length) :
  Tri Tryz.prog 175 [.ref bw 0, .str nm, ints t] (wH bw s) (D (.bool (match lkT s.T nm with | none => false | some bits => bits.getD (rankI s.N t 0).toNat false)) (wH bw s)) := by
 obtain ⟨n1, n2, t1, t2, t3, _, _, _, _, _, _, _⟩ := hs
 have hT : ∀ (i : Nat) (x : TE), s.ts[i]? = some x → s.T.take (i + 1) = s.T.take i ++ [(x.nm, x.bits)] := fun i x h => by
  unfold WS.T
  rw [List.take_add_one, List.getElem?_map, h]; rfl
 have hT0 : s.T.length = s.ts.length := by unfold WS.T; rw [lM]
 generalize hTT : s.T = TA at *
 refine Tri.enter 44 Tryz.func175 rfl rfl rfl rfl fun Fr w0 => ?_
 repeat' (first | refine AW.re 0 1 ?_ | (refine xS 1 2 ?_; refine AL.d (AOp.fr 2) ?_; refine AL.d (AOp.ll 0) ?_; refine AL.d (AOp.len_val (by kernel_rfl) rfl) ?_; refine AL.d (AOp.sub rfl rfl (by omega)) ?_; refine xN 1 ?_) | refine AW.go ?_ | fail)
 refine AW.prune [0, 1, 2, 7] (AW.loop (fun mz af h => ∃ i : Nat, i ≤ s.ts.length ∧ mz = i ∧ af = [(0, .ref bw 0), (1, .str nm), (2, ints t), (7, .int .i64 ((i : Int) - 1))] ∧ h = wH bw s ∧ lkT TA nm = lkT (TA.take i) nm) s.ts.length ⟨s.ts.length, Nat.le_refl _, rfl, rfl, rfl, by rw [List.take_of_length_le (by omega)]⟩ ?_)
 rintro mz af h ⟨i, hi, rfl, rfl, rfl, he⟩
 refine AW.seq ?_
 cases mz with
 | zero =>
  rw [he]
  repeat' (first | refine AW.re 2 2 ?_ | refine AW.re 6 1 ?_ | refine AW.jf ?_ | fail)
  all_goals try (exfalso; simp only [dT, dF, lM] at *; omega)
  exact AW.retv rfl ⟨rfl, rfl⟩
 | succ j =>
  obtain ⟨x, hx⟩ := get_lt (show j < s.ts.length by omega)
  obtain ⟨bt, hbt⟩ : ∃ b, s.to = some b := by
   cases h : s.to with
   | none => have := t2 h; omega
   | some b => exact ⟨b, rfl⟩
  obtain ⟨c0, c1, c2⟩ := tcells_get s.ts j x hx
  have hcl := tcells_len s.ts
  have hx0 : (tcells s.ts ++ s.tt)[(((j + 1 : Nat) : Int) - 1).toNat * 3 + 0]? = some (.str x.nm) := by
   rw [show (((j + 1 : Nat) : Int) - 1).toNat * 3 + 0 = 3 * j by omega, List.getElem?_append_left (by omega)]; exact c0
  have hx2 : (tcells s.ts ++ s.tt)[(((j + 1 : Nat) : Int) - 1).toNat * 3 + 2]? = some (.osl x.hb x.bits.length x.bits.length) := by
   rw [show (((j + 1 : Nat) : Int) - 1).toNat * 3 + 2 = 3 * j + 2 by omega, List.getElem?_append_left (by omega)]; exact c2
  have hh1 : (wH bw s)[1]? = some (.row bt (tcells s.ts ++ s.tt)) := by
   show some (bfO s.to _) = _; rw [hbt]; rfl
  have hA1 : bfA s.to = some ⟨bt, 0, none⟩ := by rw [hbt]; rfl
  have hhj : (wH bw s)[4 + j]? = some (.row x.hb (x.bits.map bav)) := by
   rw [show 4 + j = j + 4 by omega]
   show (s.ts.map TE.row)[j]? = _
   rw [List.getElem?_map, hx]; rfl
  rw [hT j x hx, lkT_snoc] at he
  repeat' (first | refine AW.re 2 2 ?_ | (refine xS 4 2 ?_; refine AL.d (AOp.fr 2) ?_; refine AL.d (AOp.ll 0) ?_; refine AL.es 1 ?_; refine AL.d (AOp.index_val 3 rfl hA1 rfl (by omega) (by omega) (by kernel_rfl)) ?_; refine AL.d (AOp.fr 0) ?_; refine AL.d (AOp.load_cell 1 rfl hh1 hx0 rfl (by kernel_rfl)) ?_; refine xN 2 ?_) | refine AW.jj (fun hb => ?_) (fun hb => ?_) | refine AW.go ?_ | fail)
  all_goals try (exfalso; simp only [dT, dF, lM] at *; omega)
  all_goals rw [toList_beq] at hb
  ·have h : x.nm = nm := by simpa using hb
   simp only [h, if_true] at he
   obtain ⟨hp, hbl⟩ := hbits _ he
   obtain ⟨r0, r1⟩ := rankI_bd n1 t 0 0 ht (Int.le_refl _) (by simp)
   rw [Nat.zero_add] at r1
   have hR := ref_rank3 s.N ⟨n1, n2⟩ t hl ht hp
   obtain ⟨bb, hbb⟩ := get_lt (show (rankI s.N t 0).toNat < x.bits.length by omega)
   have hbit : (x.bits.map bav)[(rankI s.N t 0).toNat]? = some (bav bb) := map_get hbb
   rw [he]
   generalize rankI (s.N : Int) t 0 = r at *
   repeat' (first | (refine AW.dq 5 ?_; refine AQ.es 2 ?_; refine AQ.p rfl (AOp.fr 2) ?_; refine AQ.p rfl (AOp.ll 0) ?_; refine AQ.es 1 ?_; refine AQ.p rfl (AOp.index_val 3 rfl hA1 rfl (by omega) (by omega) (by kernel_rfl)) ?_; refine AQ.p rfl (AOp.fr 2) ?_; refine AQ.p rfl (AOp.load_cell 1 rfl hh1 hx2 rfl (by kernel_rfl)) ?_; refine AQ.es 2 ?_; refine AQ.p rfl (AOp.fr 0) ?_; refine AQ.p rfl (AOp.ll 0) ?_; refine AQ.es 1 ?_; refine AQ.p rfl (AOp.call rfl rfl (hR.pure _)) ?_; refine AQ.p rfl (AOp.index_osl rfl rfl (by omega) (by omega) (by kernel_rfl)) ?_; refine AQ.p rfl (AOp.load_cell (4 + j) rfl hhj hbit rfl (by kernel_rfl)) ?_; refine AQ.es 1 ?_; refine AQ.nil ?_) | fail)
   exact AW.retv rfl ⟨by simp only [List.getD_eq_getElem?_getD, hbb]; rfl, rfl⟩
  ·have h : ¬ x.nm = nm := by simpa using hb
   simp only [h, if_false] at he
   repeat' (first | (refine xS 3 1 ?_; refine AL.d (AOp.sub rfl rfl (by omega)) ?_; refine xN 1 ?_) | fail)
   exact AW.again_keep j [0, 1, 2, 7] (by omega) ⟨j, by omega, rfl, by simp only [show (((j + 1 : Nat) : Int) - 1) = (j : Int) by omega]; rfl, rfl, he⟩
theorem ref_next (b m n : Nat) (l : List Int) (hm : l.length = m) (hn : 1 ≤ n ∧ n ≤ 64) (hl : ∀ x ∈ l, 0 ≤ x ∧ x < n) (hm2 : m ≤ 100000) :
  Tri Tryz.prog 193 [.osl b m m, .int .i64 n] [.row b (l.map iav)] (D (.bool (nxR n l.reverse).2) [.row b ((nxR n l.reverse).1.reverse.map iav)]) := by
 subst hm
 refine Tri.enter 28 Tryz.func193 rfl rfl rfl rfl fun Fr w0 => ?_
 repeat' (first | refine AW.re 0 1 ?_ | (refine xS 1 2 ?_; refine AL.d (AOp.sub rfl rfl (by omega)) ?_; refine xN 1 ?_) | refine AW.go ?_ | fail)
 refine AW.prune [0, 1, 5] (AW.loop (fun mz af h => ∃ i : Nat, i ≤ l.length ∧ mz = i ∧ af = [(0, .osl b l.length l.length), (1, .int .i64 n), (5, .int .i64 ((i : Int) - 1))] ∧ h = [.row b ((l.take i).map iav ++ List.replicate (l.length - i) (.int .i64 0))] ∧ nxR n l.reverse = (List.replicate (l.length - i) 0 ++ (nxR n (l.take i).reverse).1, (nxR n (l.take i).reverse).2)) l.length ⟨l.length, Nat.le_refl _, rfl, rfl, by simp, by simp⟩ ?_)
 rintro mz af h ⟨i, hi, rfl, rfl, rfl, he⟩
 refine AW.seq ?_
 cases mz with
 | zero =>
  rw [he]
  repeat' (first | refine AW.re 2 2 ?_ | refine AW.re 8 1 ?_ | refine AW.jf ?_ | fail)
  all_goals try (exfalso; simp only [dT, dF, lM] at *; omega)
  refine AW.retv rfl ⟨rfl, ?_⟩
  simp [nxR, iav]
 | succ j =>
  obtain ⟨x, hx⟩ := get_lt (show j < l.length by omega)
  have hxr := hl x (lG hx)
  have htk : l.take (j + 1) = l.take j ++ [x] := by rw [List.take_add_one, hx]; rfl
  have htl : ((l.take j).map iav).length = j := by rw [lM, List.length_take]; omega
  rw [htk, List.reverse_append] at he
  simp only [List.reverse_cons, List.reverse_nil, List.nil_append, List.singleton_append] at he
  rw [nxR] at he
  have hrow : (l.take (j + 1)).map iav ++ List.replicate (l.length - (j + 1)) (AV.int .i64 0) = (l.take j).map iav ++ iav x :: List.replicate (l.length - (j + 1)) (.int .i64 0) := by rw [htk]; simp
  rw [hrow]
  have hg : ∀ y : AV, ((l.take j).map iav ++ y :: List.replicate (l.length - (j + 1)) (AV.int .i64 0))[(((j + 1 : Nat) : Int) - 1).toNat]? = some y := fun y => by
   rw [show (((j + 1 : Nat) : Int) - 1).toNat = j by omega, List.getElem?_append_right (by omega), htl, Nat.sub_self]; rfl
  have hset : ∀ y z : AV, ((l.take j).map iav ++ y :: List.replicate (l.length - (j + 1)) (AV.int .i64 0)).set (((j + 1 : Nat) : Int) - 1).toNat z = (l.take j).map iav ++ z :: List.replicate (l.length - (j + 1)) (AV.int .i64 0) := fun y z => by
   rw [show (((j + 1 : Nat) : Int) - 1).toNat = j by omega, set_mid _ _ _ _ _ htl]
  have hll : (((j + 1 : Nat) : Int) - 1).toNat < ((l.take j).map iav ++ iav x :: List.replicate (l.length - (j + 1)) (AV.int .i64 0)).length := by
   rw [lA, htl, List.length_cons]; omega
  repeat' (first | refine AW.re 2 2 ?_ | refine AW.jj (fun hb => ?_) (fun hb => ?_) | refine AW.go ?_ | fail)
  all_goals try (exfalso; simp only [dT, dF, lM] at *; omega)
  repeat' (first | (refine xS 4 2 ?_; refine AL.d (AOp.index_osl rfl rfl (by omega) (by omega) (by kernel_rfl)) ?_; refine AL.d (AOp.load_cell 0 rfl rfl (hg _) rfl (by kernel_rfl)) ?_; refine AL.d (AOp.add rfl rfl (by omega)) ?_; refine AL.d (AOp.index_osl rfl rfl (by omega) (by omega) (by kernel_rfl)) ?_; refine AL.store_cell 0 rfl rfl rfl hll rfl rfl (by kernel_rfl) ?_; refine AL.nil ?_) | refine AW.go ?_ | fail)
  refine AW.frame_eq rfl (show _ = [Own.row b ((l.take j).map iav ++ iav (x + 1) :: List.replicate (l.length - (j + 1)) (.int .i64 0))] from by rw [← hset (iav x) (iav (x + 1))]; rfl) ?_
  repeat' (first | (refine xS 5 2 ?_; refine AL.d (AOp.index_osl rfl rfl (by omega) (by omega) (by kernel_rfl)) ?_; refine AL.d (AOp.load_cell 0 rfl rfl (hg _) rfl (by kernel_rfl)) ?_; refine xN 2 ?_) | refine AW.jj (fun hb => ?_) (fun hb => ?_) | refine AW.go ?_ | fail)
  ·have h : x + 1 < (n : Int) := by simpa using hb
   rw [if_pos h] at he
   repeat' (first | refine AW.re 6 1 ?_ | fail)
   refine AW.retv rfl ⟨by rw [he]; rfl, ?_⟩
   rw [he]
   simp only [List.reverse_append, List.reverse_cons, List.reverse_reverse, List.reverse_replicate, List.map_append, List.map_cons, List.map_replicate, List.append_assoc, List.map_nil, List.cons_append, List.nil_append]
   rfl
  ·have h : ¬ x + 1 < (n : Int) := by simpa using hb
   rw [if_neg h] at he
   have hll2 : (((j + 1 : Nat) : Int) - 1).toNat < ((l.take j).map iav ++ iav (x + 1) :: List.replicate (l.length - (j + 1)) (AV.int .i64 0)).length := by
    rw [lA, htl, List.length_cons]; omega
   repeat' (first | (refine xS 7 2 ?_; refine AL.d (AOp.index_osl rfl rfl (by omega) (by omega) (by kernel_rfl)) ?_; refine AL.store_cell 0 rfl rfl rfl hll2 rfl rfl (by kernel_rfl) ?_; refine AL.nil ?_) | (refine xS 3 1 ?_; refine AL.d (AOp.sub rfl rfl (by omega)) ?_; refine xN 1 ?_) | fail)
   refine AW.again_keep j [0, 1, 5] (by omega) ⟨j, by omega, rfl, by simp only [show (((j + 1 : Nat) : Int) - 1) = (j : Int) by omega]; rfl, ?_, ?_⟩
   ·show [Own.row b (((l.take j).map iav ++ iav (x + 1) :: List.replicate (l.length - (j + 1)) (AV.int .i64 0)).set _ _)] = _
    rw [hset, show l.length - j = (l.length - (j + 1)) + 1 by omega, List.replicate_succ]
    rfl
   ·rw [he, show l.length - j = (l.length - (j + 1)) + 1 by omega, List.replicate_succ']
    simp
inductive Mm where
 | m0
 | m1 (fr : Bool) (names : List ByteArray)
 | m2 (fr : Bool) (names : List ByteArray) (nn : Bool) (tab : TE)
def zTab : AV := .st [.str empB, .int .i64 0, .val (.slice none 0 0)]
def Mm.kn : Mm → Bool | .m0 => false | _ => true
def Mm.fr : Mm → Bool | .m0 => false | .m1 b _ => b | .m2 b _ _ _ => b
def Mm.dn : Mm → Bool | .m2 _ _ _ _ => true | _ => false
def Mm.nn : Mm → Bool | .m2 _ _ b _ => b | _ => false
def Mm.nav : Mm → AV | .m0 => .slt [] none 0 | .m1 _ l => strs l | .m2 _ l _ _ => strs l
def Mm.tab : Mm → AV | .m2 _ _ _ t => t.av | _ => zTab
def Mm.own : Mm → AH | .m2 _ _ _ t => [t.row] | _ => []
inductive NT where
 | mk (b : Nat) (f : GFml) (m : Mm) (kids : List NT)
def NT.b : NT → Nat | .mk b _ _ _ => b
def NT.f : NT → GFml | .mk _ f _ _ => f
def NT.m : NT → Mm | .mk _ _ m _ => m
def NT.kids : NT → List NT | .mk _ _ _ k => k
def nbox (f : GFml) (kb : List Nat) (m : Mm) : AV := .st [f.st, .sl (kb.map fun b => .ref b 0), .bool m.kn, .bool m.fr, .bool m.dn, .bool m.nn, m.nav, m.tab]
mutual
def nown : NT → AH
 | .mk b f m kids => .box b (nbox f (kids.map NT.b) m) :: (m.own ++ nownL kids)
def nownL : List NT → AH
 | [] => []
 | n :: l => nown n ++ nownL l
end
def NT.bx (n : NT) : Own := .box n.b (nbox n.f (n.kids.map NT.b) n.m)
def NT.rest (n : NT) : AH := n.m.own ++ nownL n.kids
theorem nown_eq (n : NT) : nown n = n.bx :: n.rest := by cases n; rw [nown]; rfl
def hH (bw : Nat) (s : WS) (n : NT) : AH := n.bx :: (wH bw s ++ n.rest)
structure Same (s s' : WS) : Prop where
 N : s'.N = s.N
 base : s'.base = s.base
 ts : s'.ts = s.ts
 ns : s'.ns = s.ns
 vs : s'.vs = s.vs
 ok : s'.Ok
theorem Same.refl {s : WS} (h : s.Ok) : Same s s := ⟨rfl, rfl, rfl, rfl, rfl, h⟩
theorem Same.trans {a b c : WS} (h : Same a b) (k : Same b c) : Same a c := ⟨k.N.trans h.N, k.base.trans h.base, k.ts.trans h.ts, k.ns.trans h.ns, k.vs.trans h.vs, k.ok⟩
theorem Same.T {s s' : WS} (h : Same s s') : s'.T = s.T := by unfold WS.T; rw [h.ts]
theorem Same.V {s s' : WS} (h : Same s s') : s'.V = s.V := by unfold WS.V; rw [h.ns, h.vs]
def HPost (bw : Nat) (s : WS) (n : NT) (K : NT → Prop) (v : AV) (Y : AH) : AEnd → AH → Prop := fun x h => x = .ret v ∧ ∃ s' n', h = Y ++ hH bw s' n' ∧ Same s s' ∧ n'.b = n.b ∧ n'.f = n.f ∧ K n'
theorem permW0 {α : Type} (w a b n t : α) (R : List α) : ([w, a, b] ++ (n :: t :: R)).Perm (n :: w :: t :: a :: b :: R) :=
 ((List.perm_append_comm (l₁ := [w, a, b]) (l₂ := [n, t])).append_right R).trans (.cons _ (.swap _ _ _))
theorem permW1 {α : Type} (y w a b n t : α) (R : List α) : ([y, w, a, b] ++ (n :: t :: R)).Perm (y :: n :: w :: t :: a :: b :: R) := .cons _ (permW0 w a b n t R)
theorem Tri.ahead {P : Program} {f : FuncId} {args : List AV} {b : AH} {Φ : AEnd → AH → Prop} (h : Tri P f args b Φ) (a : AH) : Tri P f args (a ++ b) (fun x h => ∃ h1, Φ x h1 ∧ h = a ++ h1) := by
 have := h.around a []
 simpa using this
theorem w_With_ro (bw : Nat) (K : NT → Prop) (v : Bool) (n : NT) (s : WS) (names : List ByteArray) (at_ : List Int) (hs : s.Ok) (hl : at_.length = names.length) (hn : s.ns.length + names.length ≤ 100000) (hat : ∀ x ∈ at_, 0 ≤ x ∧ x < s.N)
  (hK : ∀ s', s'.Ok → s'.N = s.N → s'.base = s.base → s'.ts = s.ts → s'.ns = s.ns ++ names → s'.vs = s.vs ++ at_ → Tri Tryz.prog 155 [.ref bw 0, .ref n.b 0] (hH bw s' n) (HPost bw s' n K (.bool v) [])) :
  Tri Tryz.prog 118 [.ref bw 0, strs names, ints at_, .ref n.b 0] (hH bw s n) (HPost bw s n K (.bool v) []) := by
 have hs0 := hs
 obtain ⟨n1, n2, t1, t2, t3, m1, m2, m3, v1, v2, v3, v4⟩ := hs
 have hlm : (at_.map iav).length = at_.length := lM _
 have hr1 : ∀ y ∈ names.map AV.str, y.size = 1 := all_map fun _ => rfl
 have hr2 : AV.cellsOK (names.map AV.str) = true := ok_all fun _ hy => by obtain ⟨_, _, rfl⟩ := List.mem_map.1 hy; rfl
 have hr3 : ∀ y ∈ at_.map iav, y.size = 1 := all_map fun _ => rfl
 have hr4 : AV.cellsOK (at_.map iav) = true := ok_all fun _ hy => by obtain ⟨_, _, rfl⟩ := List.mem_map.1 hy; rfl
 refine Tri.enter 56 Tryz.func118 rfl rfl rfl rfl fun Fr w0 => ?_
 repeat' (first | refine AW.re 0 1 ?_ | (refine xS 1 2 ?_; refine AL.d (AOp.fr 3) ?_; refine AL.d (AOp.ll 1) ?_; refine AL.d (AOp.len_val (by kernel_rfl) rfl) ?_; refine xN 1 ?_) | fail)
 refine AW.seq ?_
 refine AW.cut (fun af h => ∃ o1 c1 tl1 o2 c2 tl2, af = [(0, .ref bw 0), (3, .ref n.b 0), (9, .int .i64 s.ns.length)] ∧ h = [Own.box bw (.st [.int .i64 s.N, .int .i64 s.base, bfV s.to s.ts.length s.tc, bfV o1 (s.ns.length + (names.map AV.str).length) c1, bfV o2 (s.vs.length + (at_.map iav).length) c2, .bool s.long]), bfO o1 (s.ns.map AV.str ++ names.map AV.str ++ tl1), bfO o2 (s.vs.map iav ++ at_.map iav ++ tl2)] ++ (n.bx :: bfO s.to (tcells s.ts ++ s.tt) :: (s.ts.map TE.row ++ n.rest)) ∧ ((s.ns.map AV.str).length + (names.map AV.str).length + tl1.length = c1 * 1 ∧ (o1 = none → s.ns.length + (names.map AV.str).length = 0 ∧ c1 = 0) ∧ s.ns.length + (names.map AV.str).length ≤ c1) ∧ (s.vs.map iav).length + (at_.map iav).length + tl2.length = c2 * 1 ∧ (o2 = none → s.vs.length + (at_.map iav).length = 0 ∧ c2 = 0) ∧ s.vs.length + (at_.map iav).length ≤ c2) ?_ ?_
 ·repeat' (first | fail)
  refine AW.explore [false, true, false, true, true] [5, 7, 11, 13, 16, 19] rfl (by kernel_rfl) (by kernel_rfl) (by kernel_rfl) (by kernel_rfl) ?_
  refine AQE.ev rfl rfl rfl rfl ?_
  refine AQE.ev rfl rfl rfl rfl ?_
  refine AQE.ev rfl rfl rfl rfl ?_
  refine AQE.ev rfl rfl rfl rfl ?_
  first | refine AQE.op rfl AOp.fa rfl rfl ?_ | refine AQE.op rfl (AOp.fr 3) rfl rfl ?_
  refine AQE.hole rfl rfl ?_
  refine AQE.ev rfl rfl rfl rfl ?_
  refine AQE.hole rfl rfl ?_
  refine AQE.ev rfl rfl rfl rfl ?_
  refine AQE.ev rfl rfl rfl rfl ?_
  first | refine AQE.op rfl AOp.fa rfl rfl ?_ | refine AQE.op rfl (AOp.fr 4) rfl rfl ?_
  refine AQE.hole rfl rfl ?_
  refine AQE.ev rfl rfl rfl rfl ?_
  refine AQE.hole rfl rfl ?_
  refine AQE.ev rfl rfl rfl rfl ?_
  first | refine AQE.op rfl AOp.fa rfl rfl ?_ | refine AQE.op rfl (AOp.fr 3) rfl rfl ?_
  refine AQE.hole rfl rfl ?_
  refine AQE.ev rfl rfl rfl rfl ?_
  first | refine AQE.op rfl AOp.fa rfl rfl ?_ | refine AQE.op rfl (AOp.fr 4) rfl rfl ?_
  refine AQE.hole rfl rfl ?_
  refine AQE.nil ?_
  repeat' (first | refine AX.two (n := 5) 5 11 rfl ?_ ?_ | refine AX.one (n := 4) 5 rfl ?_ | refine AX.two (n := 4) 7 11 rfl ?_ ?_ | refine AX.one (n := 3) 7 rfl ?_ | refine AX.one (n := 3) 11 rfl ?_ | refine AX.one (n := 2) 13 rfl ?_ | refine AX.one (n := 1) 16 rfl ?_ | refine AX.one (n := 0) 19 rfl ?_ | (refine AXS.det (i := 5) rfl rfl rfl (AOp.ll 0) ?_; dsimp only [sA, sB, sC, sD]) | (refine AXS.step (i := 7) rfl rfl rfl (AOp.append_bf 1 1 (o := s.no) (n := s.ns.length) (c := s.nc) (us := s.ns.map AV.str) (tl := s.nt) (ys := names.map AV.str) (m := (names.map AV.str).length) (e := 9) (bytes := 16) rfl rfl (by rw [lM]; omega) (by rw [lM]; omega) m2 (SrcC.ro (v := strs names) rfl rfl hr1) (by omega) hr1 hr2 (by omega) (by kernel_rfl) (by kernel_rfl) (by rw [lM]; omega) (by rw [lM]; omega)) ?_ (by rintro _ _ ⟨_, _, _, e, _⟩; cases e); rintro _ _ ⟨o1, c1, tl1, e, rfl, q1, q2, q3⟩; injection e with e; subst e; dsimp only [sA, sB, sC, sD]) | (refine AXS.det (i := 11) rfl rfl rfl (AOp.ll 0) ?_; dsimp only [sA, sB, sC, sD]) | (refine AXS.step (i := 13) rfl rfl rfl (AOp.append_bf 2 1 (o := s.vo) (n := s.vs.length) (c := s.vc) (us := s.vs.map iav) (tl := s.vt) (ys := at_.map iav) (m := (at_.map iav).length) (e := 3) (bytes := 8) rfl rfl (by rw [lM]; omega) (by rw [lM]; omega) v2 (SrcC.ro (v := ints at_) rfl rfl hr3) (by omega) hr3 hr4 (by omega) (by kernel_rfl) (by kernel_rfl) (by (try rw [lM]); omega) (by (try rw [lM]); omega)) ?_ (by rintro _ _ ⟨_, _, _, e, _⟩; cases e); rintro _ _ ⟨o2, c2, tl2, e, rfl, p1, p2, p3⟩; injection e with e; subst e; dsimp only [sA, sB, sC, sD]) | (refine AXS.at (q := 16) rfl rfl ?_; refine AXO.sl 0 (fun _ => ?_); dsimp only [sA, sB, sC, sD]) | (refine AXS.at (q := 19) rfl rfl ?_; refine AXO.sl 0 (fun _ => ?_); dsimp only [sA, sB, sC, sD]) | fail)
  all_goals refine AX.done_keep [0,3,9] ?_
  all_goals exact AW.meet [0, 3, 9] ⟨o1, c1, tl1, o2, c2, tl2, rfl, rfl, ⟨q1, q2, q3⟩, p1, p2, p3⟩
 rintro _ _ ⟨o1, c1, tl1, o2, c2, tl2, rfl, rfl, ⟨q1, q2, q3⟩, p1, p2, p3⟩
 simp only [lM] at q1 q2 q3 p1 p2 p3
 obtain ⟨s2, hs2⟩ : ∃ s2 : WS, s2 = { s with no := o1, nc := c1, nt := tl1, ns := s.ns ++ names, vo := o2, vc := c2, vt := tl2, vs := s.vs ++ at_ } := ⟨_, rfl⟩
 have ok2 : s2.Ok := by
  subst hs2
  exact ⟨n1, n2, t1, t2, t3, by show (s.ns ++ names).length + tl1.length = c1; rw [lA]; omega, fun h => by show (s.ns ++ names).length = 0 ∧ _; rw [lA]; exact q2 h, by show (s.ns ++ names).length ≤ _; rw [lA]; omega, by show (s.vs ++ at_).length + tl2.length = c2; rw [lA]; omega, fun h => by show (s.vs ++ at_).length = 0 ∧ _; rw [lA]; exact p2 h, by show (s.vs ++ at_).length = (s.ns ++ names).length; rw [lA, lA]; omega, fun x hx => (List.mem_append.1 hx).elim (v4 x) (hat x)⟩
 have hc := hK s2 ok2 (by rw [hs2]) (by rw [hs2]) (by rw [hs2]) (by rw [hs2]) (by rw [hs2])
 refine AW.frame_eq rfl (show _ = [Own.box bw s2.box, bfO s2.no (s2.ns.map AV.str ++ s2.nt), bfO s2.vo (s2.vs.map iav ++ s2.vt)] ++ (n.bx :: bfO s2.to (tcells s2.ts ++ s2.tt) :: (s2.ts.map TE.row ++ n.rest)) from ?_) (AW.perm (permW0 _ _ _ _ _ _) ?_)
 ·subst hs2
  simp only [WS.box, lA, List.map_append, lM]
  try rfl
 repeat' (first | (refine xS 3 2 ?_; (refine AL.callQ rfl rfl hc rfl ?_ ?_; rotate_left; rintro _ _ ⟨e, _⟩; cases e; rintro _ _ ⟨e, s3, n3, rfl, sm, nb, nf, hk⟩; injection e with e; subst e) <;> refine AL.es 1 ?_ <;> refine AL.nil ?_) | fail)
 have hN : s3.N = s.N := by rw [sm.N, hs2]
 have hB : s3.base = s.base := by rw [sm.base, hs2]
 have hts : s3.ts = s.ts := by rw [sm.ts, hs2]
 have hns : s3.ns = s.ns ++ names := by rw [sm.ns, hs2]
 have hvs : s3.vs = s.vs ++ at_ := by rw [sm.vs, hs2]
 obtain ⟨k1, k2, k3, k4, k5, k6, k7, k8, k9, k10, k11, k12⟩ := sm.ok
 have hnl : s3.ns.length = s.ns.length + names.length := by rw [hns, lA]
 have hvl : s3.vs.length = s.vs.length + at_.length := by rw [hvs, lA]
 refine AW.seq ?_
 refine AW.cut (fun af h => af = [(10, .bool v)] ∧ h = [Own.box bw (.st [.int .i64 s3.N, .int .i64 s3.base, bfV s3.to s3.ts.length s3.tc, bfV s3.no s.ns.length s3.nc, bfV s3.vo s.ns.length s3.vc, .bool s3.long])] ++ (n3.bx :: (bfO s3.to (tcells s3.ts ++ s3.tt) :: bfO s3.no (s3.ns.map AV.str ++ s3.nt) :: bfO s3.vo (s3.vs.map iav ++ s3.vt) :: (s3.ts.map TE.row ++ n3.rest)))) ?_ ?_
 ·repeat' (first | fail)
  refine AW.explore [false, true] [5, 7, 11, 13, 16, 19] rfl (by kernel_rfl) (by kernel_rfl) (by kernel_rfl) (by kernel_rfl) ?_
  refine AQE.ev rfl rfl rfl rfl ?_
  refine AQE.ev rfl rfl rfl rfl ?_
  refine AQE.ev rfl rfl rfl rfl ?_
  refine AQE.ev rfl rfl rfl rfl ?_
  first | refine AQE.op rfl AOp.fa rfl rfl ?_ | refine AQE.op rfl (AOp.fr 3) rfl rfl ?_
  refine AQE.hole rfl rfl ?_
  refine AQE.ev rfl rfl rfl rfl ?_
  refine AQE.hole rfl rfl ?_
  refine AQE.ev rfl rfl rfl rfl ?_
  refine AQE.ev rfl rfl rfl rfl ?_
  first | refine AQE.op rfl AOp.fa rfl rfl ?_ | refine AQE.op rfl (AOp.fr 4) rfl rfl ?_
  refine AQE.hole rfl rfl ?_
  refine AQE.ev rfl rfl rfl rfl ?_
  refine AQE.hole rfl rfl ?_
  refine AQE.ev rfl rfl rfl rfl ?_
  first | refine AQE.op rfl AOp.fa rfl rfl ?_ | refine AQE.op rfl (AOp.fr 3) rfl rfl ?_
  refine AQE.hole rfl rfl ?_
  refine AQE.ev rfl rfl rfl rfl ?_
  first | refine AQE.op rfl AOp.fa rfl rfl ?_ | refine AQE.op rfl (AOp.fr 4) rfl rfl ?_
  refine AQE.hole rfl rfl ?_
  refine AQE.nil ?_
  repeat' (first | refine AX.two (n := 5) 5 11 rfl ?_ ?_ | refine AX.two (n := 4) 5 13 rfl ?_ ?_ | refine AX.two (n := 4) 7 11 rfl ?_ ?_ | refine AX.one (n := 3) 5 rfl ?_ | refine AX.two (n := 3) 7 13 rfl ?_ ?_ | refine AX.one (n := 3) 11 rfl ?_ | refine AX.one (n := 2) 7 rfl ?_ | refine AX.two (n := 2) 13 16 rfl ?_ ?_ | refine AX.one (n := 1) 13 rfl ?_ | refine AX.one (n := 1) 16 rfl ?_ | refine AX.one (n := 0) 19 rfl ?_ | (refine AXS.det (i := 5) rfl rfl rfl (AOp.ll 0) ?_; dsimp only [sA, sB, sC, sD]) | (refine AXS.det (i := 7) rfl rfl rfl (AOp.cut_bf (sz := 1) (k := s.ns.length) (by kernel_rfl) rfl (bndIs.some rfl rfl) (by omega)) ?_; dsimp only [sA, sB, sC, sD]) | (refine AXS.det (i := 11) rfl rfl rfl (AOp.ll 0) ?_; dsimp only [sA, sB, sC, sD]) | (refine AXS.det (i := 13) rfl rfl rfl (AOp.cut_bf (sz := 1) (k := s.ns.length) (by kernel_rfl) rfl (bndIs.some rfl rfl) (by omega)) ?_; dsimp only [sA, sB, sC, sD]) | (refine AXS.at (q := 16) rfl rfl ?_; refine AXO.sl 0 (fun _ => ?_); dsimp only [sA, sB, sC, sD]) | (refine AXS.at (q := 19) rfl rfl ?_; refine AXO.sl 0 (fun _ => ?_); dsimp only [sA, sB, sC, sD]) | fail)
  all_goals refine AX.done_keep [10] ?_
  all_goals exact AW.meet [10] ⟨rfl, rfl⟩
 rintro _ _ ⟨rfl, rfl⟩
 obtain ⟨s4, hs4⟩ : ∃ s4 : WS, s4 = { s3 with nt := names.map AV.str ++ s3.nt, ns := s.ns, vt := at_.map iav ++ s3.vt, vs := s.vs } := ⟨_, rfl⟩
 have ok4 : s4.Ok := by
  subst hs4
  exact ⟨k1, k2, k3, k4, k5, by show s.ns.length + (names.map AV.str ++ s3.nt).length = s3.nc; rw [lA, lM]; omega, fun h => ⟨by have := (k7 h).1; show s.ns.length = 0; omega, (k7 h).2⟩, m3, by show s.vs.length + (at_.map iav ++ s3.vt).length = s3.vc; rw [lA, lM]; omega, fun h => ⟨by have := (k10 h).1; show s.vs.length = 0; omega, (k10 h).2⟩, v3, fun x hx => by have := v4 x hx; rw [← hN] at this; exact this⟩
 refine AW.frame_eq rfl (show _ = [Own.box bw s4.box] ++ (n3.bx :: (bfO s4.to (tcells s4.ts ++ s4.tt) :: bfO s4.no (s4.ns.map AV.str ++ s4.nt) :: bfO s4.vo (s4.vs.map iav ++ s4.vt) :: (s4.ts.map TE.row ++ n3.rest))) from ?_) (AW.perm (.swap _ _ _) ?_)
 ·subst hs4
  simp only [WS.box, hns, hvs, List.map_append, List.append_assoc, v3]
  try rfl
 repeat' (first | refine AW.re 5 2 ?_ | fail)
 exact AW.retv rfl ⟨rfl, s4, n3, rfl, ⟨by rw [hs4]; exact hN, by rw [hs4]; exact hB, by rw [hs4]; exact hts, by rw [hs4], by rw [hs4], ok4⟩, nb, nf, hk⟩
theorem w_With_own (bw : Nat) (K : NT → Prop) (v : Bool) (n : NT) (s : WS) (names : List ByteArray) (at_ : List Int) (b c : Nat) (tl : List AV) (hs : s.Ok) (hl : at_.length = names.length) (hn : s.ns.length + names.length ≤ 100000) (hat : ∀ x ∈ at_, 0 ≤ x ∧ x < s.N)
  (hK : ∀ s', s'.Ok → s'.N = s.N → s'.base = s.base → s'.ts = s.ts → s'.ns = s.ns ++ names → s'.vs = s.vs ++ at_ → Tri Tryz.prog 155 [.ref bw 0, .ref n.b 0] (hH bw s' n) (HPost bw s' n K (.bool v) [])) :
  Tri Tryz.prog 118 [.ref bw 0, strs names, .osl b at_.length c, .ref n.b 0] (.row b (at_.map iav ++ tl) :: hH bw s n) (HPost bw s n K (.bool v) [.row b (at_.map iav ++ tl)]) := by
 have hs0 := hs
 obtain ⟨n1, n2, t1, t2, t3, m1, m2, m3, v1, v2, v3, v4⟩ := hs
 have hlm : (at_.map iav).length = at_.length := lM _
 have hr1 : ∀ y ∈ names.map AV.str, y.size = 1 := all_map fun _ => rfl
 have hr2 : AV.cellsOK (names.map AV.str) = true := ok_all fun _ hy => by obtain ⟨_, _, rfl⟩ := List.mem_map.1 hy; rfl
 have hr3 : ∀ y ∈ at_.map iav, y.size = 1 := all_map fun _ => rfl
 have hr4 : AV.cellsOK (at_.map iav) = true := ok_all fun _ hy => by obtain ⟨_, _, rfl⟩ := List.mem_map.1 hy; rfl
 refine Tri.enter 56 Tryz.func118 rfl rfl rfl rfl fun Fr w0 => ?_
 repeat' (first | refine AW.re 0 1 ?_ | (refine xS 1 2 ?_; refine AL.d (AOp.fr 3) ?_; refine AL.d (AOp.ll 2) ?_; refine AL.d (AOp.len_val (by kernel_rfl) rfl) ?_; refine xN 1 ?_) | fail)
 refine AW.seq ?_
 refine AW.cut (fun af h => ∃ o1 c1 tl1 o2 c2 tl2, af = [(0, .ref bw 0), (3, .ref n.b 0), (9, .int .i64 s.ns.length)] ∧ h = [.row b (at_.map iav ++ tl), Own.box bw (.st [.int .i64 s.N, .int .i64 s.base, bfV s.to s.ts.length s.tc, bfV o1 (s.ns.length + (names.map AV.str).length) c1, bfV o2 (s.vs.length + (at_.map iav).length) c2, .bool s.long]), bfO o1 (s.ns.map AV.str ++ names.map AV.str ++ tl1), bfO o2 (s.vs.map iav ++ at_.map iav ++ tl2)] ++ (n.bx :: bfO s.to (tcells s.ts ++ s.tt) :: (s.ts.map TE.row ++ n.rest)) ∧ ((s.ns.map AV.str).length + (names.map AV.str).length + tl1.length = c1 * 1 ∧ (o1 = none → s.ns.length + (names.map AV.str).length = 0 ∧ c1 = 0) ∧ s.ns.length + (names.map AV.str).length ≤ c1) ∧ (s.vs.map iav).length + (at_.map iav).length + tl2.length = c2 * 1 ∧ (o2 = none → s.vs.length + (at_.map iav).length = 0 ∧ c2 = 0) ∧ s.vs.length + (at_.map iav).length ≤ c2) ?_ ?_
 ·repeat' (first | fail)
  refine AW.explore [true, false, true, false, true, true] [5, 7, 11, 13, 16, 19] rfl (by kernel_rfl) (by kernel_rfl) (by kernel_rfl) (by kernel_rfl) ?_
  refine AQE.ev rfl rfl rfl rfl ?_
  refine AQE.ev rfl rfl rfl rfl ?_
  refine AQE.ev rfl rfl rfl rfl ?_
  refine AQE.ev rfl rfl rfl rfl ?_
  first | refine AQE.op rfl AOp.fa rfl rfl ?_ | refine AQE.op rfl (AOp.fr 3) rfl rfl ?_
  refine AQE.hole rfl rfl ?_
  refine AQE.ev rfl rfl rfl rfl ?_
  refine AQE.hole rfl rfl ?_
  refine AQE.ev rfl rfl rfl rfl ?_
  refine AQE.ev rfl rfl rfl rfl ?_
  first | refine AQE.op rfl AOp.fa rfl rfl ?_ | refine AQE.op rfl (AOp.fr 4) rfl rfl ?_
  refine AQE.hole rfl rfl ?_
  refine AQE.ev rfl rfl rfl rfl ?_
  refine AQE.hole rfl rfl ?_
  refine AQE.ev rfl rfl rfl rfl ?_
  first | refine AQE.op rfl AOp.fa rfl rfl ?_ | refine AQE.op rfl (AOp.fr 3) rfl rfl ?_
  refine AQE.hole rfl rfl ?_
  refine AQE.ev rfl rfl rfl rfl ?_
  first | refine AQE.op rfl AOp.fa rfl rfl ?_ | refine AQE.op rfl (AOp.fr 4) rfl rfl ?_
  refine AQE.hole rfl rfl ?_
  refine AQE.nil ?_
  repeat' (first | refine AX.two (n := 5) 5 11 rfl ?_ ?_ | refine AX.one (n := 4) 5 rfl ?_ | refine AX.two (n := 4) 7 11 rfl ?_ ?_ | refine AX.one (n := 3) 7 rfl ?_ | refine AX.one (n := 3) 11 rfl ?_ | refine AX.one (n := 2) 13 rfl ?_ | refine AX.one (n := 1) 16 rfl ?_ | refine AX.one (n := 0) 19 rfl ?_ | (refine AXS.det (i := 5) rfl rfl rfl (AOp.ll 1) ?_; dsimp only [sA, sB, sC, sD]) | (refine AXS.step (i := 7) rfl rfl rfl (AOp.append_bf 2 1 (o := s.no) (n := s.ns.length) (c := s.nc) (us := s.ns.map AV.str) (tl := s.nt) (ys := names.map AV.str) (m := (names.map AV.str).length) (e := 9) (bytes := 16) rfl rfl (by rw [lM]; omega) (by rw [lM]; omega) m2 (SrcC.ro (v := strs names) rfl rfl hr1) (by omega) hr1 hr2 (by omega) (by kernel_rfl) (by kernel_rfl) (by rw [lM]; omega) (by rw [lM]; omega)) ?_ (by rintro _ _ ⟨_, _, _, e, _⟩; cases e); rintro _ _ ⟨o1, c1, tl1, e, rfl, q1, q2, q3⟩; injection e with e; subst e; dsimp only [sA, sB, sC, sD]) | (refine AXS.det (i := 11) rfl rfl rfl (AOp.ll 1) ?_; dsimp only [sA, sB, sC, sD]) | (refine AXS.step (i := 13) rfl rfl rfl (AOp.append_bf 3 1 (o := s.vo) (n := s.vs.length) (c := s.vc) (us := s.vs.map iav) (tl := s.vt) (ys := at_.map iav) (m := (at_.map iav).length) (e := 3) (bytes := 8) rfl rfl (by rw [lM]; omega) (by rw [lM]; omega) v2 (SrcC.own 0 (b := b) (m := (at_.map iav).length) (c := c) (ys := at_.map iav) (rest := tl) (by rw [hlm]; rfl) rfl rfl) (by omega) hr3 hr4 (by omega) (by kernel_rfl) (by kernel_rfl) (by (try rw [lM]); omega) (by (try rw [lM]); omega)) ?_ (by rintro _ _ ⟨_, _, _, e, _⟩; cases e); rintro _ _ ⟨o2, c2, tl2, e, rfl, p1, p2, p3⟩; injection e with e; subst e; dsimp only [sA, sB, sC, sD]) | (refine AXS.at (q := 16) rfl rfl ?_; refine AXO.sl 1 (fun _ => ?_); dsimp only [sA, sB, sC, sD]) | (refine AXS.at (q := 19) rfl rfl ?_; refine AXO.sl 1 (fun _ => ?_); dsimp only [sA, sB, sC, sD]) | fail)
  all_goals refine AX.done_keep [0,3,9] ?_
  all_goals exact AW.meet [0, 3, 9] ⟨o1, c1, tl1, o2, c2, tl2, rfl, rfl, ⟨q1, q2, q3⟩, p1, p2, p3⟩
 rintro _ _ ⟨o1, c1, tl1, o2, c2, tl2, rfl, rfl, ⟨q1, q2, q3⟩, p1, p2, p3⟩
 simp only [lM] at q1 q2 q3 p1 p2 p3
 obtain ⟨s2, hs2⟩ : ∃ s2 : WS, s2 = { s with no := o1, nc := c1, nt := tl1, ns := s.ns ++ names, vo := o2, vc := c2, vt := tl2, vs := s.vs ++ at_ } := ⟨_, rfl⟩
 have ok2 : s2.Ok := by
  subst hs2
  exact ⟨n1, n2, t1, t2, t3, by show (s.ns ++ names).length + tl1.length = c1; rw [lA]; omega, fun h => by show (s.ns ++ names).length = 0 ∧ _; rw [lA]; exact q2 h, by show (s.ns ++ names).length ≤ _; rw [lA]; omega, by show (s.vs ++ at_).length + tl2.length = c2; rw [lA]; omega, fun h => by show (s.vs ++ at_).length = 0 ∧ _; rw [lA]; exact p2 h, by show (s.vs ++ at_).length = (s.ns ++ names).length; rw [lA, lA]; omega, fun x hx => (List.mem_append.1 hx).elim (v4 x) (hat x)⟩
 have hc := Tri.ahead (hK s2 ok2 (by rw [hs2]) (by rw [hs2]) (by rw [hs2]) (by rw [hs2]) (by rw [hs2])) [.row b (at_.map iav ++ tl)]
 refine AW.frame_eq rfl (show _ = [Own.row b (at_.map iav ++ tl), .box bw s2.box, bfO s2.no (s2.ns.map AV.str ++ s2.nt), bfO s2.vo (s2.vs.map iav ++ s2.vt)] ++ (n.bx :: bfO s2.to (tcells s2.ts ++ s2.tt) :: (s2.ts.map TE.row ++ n.rest)) from ?_) (AW.perm (permW1 _ _ _ _ _ _ _) ?_)
 ·subst hs2
  simp only [WS.box, lA, List.map_append, lM]
  try rfl
 repeat' (first | (refine xS 3 2 ?_; (refine AL.callQ rfl rfl hc rfl ?_ ?_; rotate_left; rintro _ _ ⟨_, ⟨e, _⟩, _⟩; cases e; rintro _ _ ⟨_, ⟨e, s3, n3, rfl, sm, nb, nf, hk⟩, rfl⟩; injection e with e; subst e) <;> refine AL.es 1 ?_ <;> refine AL.nil ?_) | fail)
 have hN : s3.N = s.N := by rw [sm.N, hs2]
 have hB : s3.base = s.base := by rw [sm.base, hs2]
 have hts : s3.ts = s.ts := by rw [sm.ts, hs2]
 have hns : s3.ns = s.ns ++ names := by rw [sm.ns, hs2]
 have hvs : s3.vs = s.vs ++ at_ := by rw [sm.vs, hs2]
 obtain ⟨k1, k2, k3, k4, k5, k6, k7, k8, k9, k10, k11, k12⟩ := sm.ok
 have hnl : s3.ns.length = s.ns.length + names.length := by rw [hns, lA]
 have hvl : s3.vs.length = s.vs.length + at_.length := by rw [hvs, lA]
 refine AW.seq ?_
 refine AW.cut (fun af h => af = [(10, .bool v)] ∧ h = [Own.box bw (.st [.int .i64 s3.N, .int .i64 s3.base, bfV s3.to s3.ts.length s3.tc, bfV s3.no s.ns.length s3.nc, bfV s3.vo s.ns.length s3.vc, .bool s3.long])] ++ (.row b (at_.map iav ++ tl) :: n3.bx :: (bfO s3.to (tcells s3.ts ++ s3.tt) :: bfO s3.no (s3.ns.map AV.str ++ s3.nt) :: bfO s3.vo (s3.vs.map iav ++ s3.vt) :: (s3.ts.map TE.row ++ n3.rest)))) ?_ ?_
 ·repeat' (first | fail)
  refine AW.explore [false, false, true] [5, 7, 11, 13, 16, 19] rfl (by kernel_rfl) (by kernel_rfl) (by kernel_rfl) (by kernel_rfl) ?_
  refine AQE.ev rfl rfl rfl rfl ?_
  refine AQE.ev rfl rfl rfl rfl ?_
  refine AQE.ev rfl rfl rfl rfl ?_
  refine AQE.ev rfl rfl rfl rfl ?_
  first | refine AQE.op rfl AOp.fa rfl rfl ?_ | refine AQE.op rfl (AOp.fr 3) rfl rfl ?_
  refine AQE.hole rfl rfl ?_
  refine AQE.ev rfl rfl rfl rfl ?_
  refine AQE.hole rfl rfl ?_
  refine AQE.ev rfl rfl rfl rfl ?_
  refine AQE.ev rfl rfl rfl rfl ?_
  first | refine AQE.op rfl AOp.fa rfl rfl ?_ | refine AQE.op rfl (AOp.fr 4) rfl rfl ?_
  refine AQE.hole rfl rfl ?_
  refine AQE.ev rfl rfl rfl rfl ?_
  refine AQE.hole rfl rfl ?_
  refine AQE.ev rfl rfl rfl rfl ?_
  first | refine AQE.op rfl AOp.fa rfl rfl ?_ | refine AQE.op rfl (AOp.fr 3) rfl rfl ?_
  refine AQE.hole rfl rfl ?_
  refine AQE.ev rfl rfl rfl rfl ?_
  first | refine AQE.op rfl AOp.fa rfl rfl ?_ | refine AQE.op rfl (AOp.fr 4) rfl rfl ?_
  refine AQE.hole rfl rfl ?_
  refine AQE.nil ?_
  repeat' (first | refine AX.two (n := 5) 5 11 rfl ?_ ?_ | refine AX.two (n := 4) 5 13 rfl ?_ ?_ | refine AX.two (n := 4) 7 11 rfl ?_ ?_ | refine AX.one (n := 3) 5 rfl ?_ | refine AX.two (n := 3) 7 13 rfl ?_ ?_ | refine AX.one (n := 3) 11 rfl ?_ | refine AX.one (n := 2) 7 rfl ?_ | refine AX.two (n := 2) 13 16 rfl ?_ ?_ | refine AX.one (n := 1) 13 rfl ?_ | refine AX.one (n := 1) 16 rfl ?_ | refine AX.one (n := 0) 19 rfl ?_ | (refine AXS.det (i := 5) rfl rfl rfl (AOp.ll 0) ?_; dsimp only [sA, sB, sC, sD]) | (refine AXS.det (i := 7) rfl rfl rfl (AOp.cut_bf (sz := 1) (k := s.ns.length) (by kernel_rfl) rfl (bndIs.some rfl rfl) (by omega)) ?_; dsimp only [sA, sB, sC, sD]) | (refine AXS.det (i := 11) rfl rfl rfl (AOp.ll 0) ?_; dsimp only [sA, sB, sC, sD]) | (refine AXS.det (i := 13) rfl rfl rfl (AOp.cut_bf (sz := 1) (k := s.ns.length) (by kernel_rfl) rfl (bndIs.some rfl rfl) (by omega)) ?_; dsimp only [sA, sB, sC, sD]) | (refine AXS.at (q := 16) rfl rfl ?_; refine AXO.sl 0 (fun _ => ?_); dsimp only [sA, sB, sC, sD]) | (refine AXS.at (q := 19) rfl rfl ?_; refine AXO.sl 0 (fun _ => ?_); dsimp only [sA, sB, sC, sD]) | fail)
  all_goals refine AX.done_keep [10] ?_
  all_goals exact AW.meet [10] ⟨rfl, rfl⟩
 rintro _ _ ⟨rfl, rfl⟩
 obtain ⟨s4, hs4⟩ : ∃ s4 : WS, s4 = { s3 with nt := names.map AV.str ++ s3.nt, ns := s.ns, vt := at_.map iav ++ s3.vt, vs := s.vs } := ⟨_, rfl⟩
 have ok4 : s4.Ok := by
  subst hs4
  exact ⟨k1, k2, k3, k4, k5, by show s.ns.length + (names.map AV.str ++ s3.nt).length = s3.nc; rw [lA, lM]; omega, fun h => ⟨by have := (k7 h).1; show s.ns.length = 0; omega, (k7 h).2⟩, m3, by show s.vs.length + (at_.map iav ++ s3.vt).length = s3.vc; rw [lA, lM]; omega, fun h => ⟨by have := (k10 h).1; show s.vs.length = 0; omega, (k10 h).2⟩, v3, fun x hx => by have := v4 x hx; rw [← hN] at this; exact this⟩
 refine AW.frame_eq rfl (show _ = [Own.box bw s4.box] ++ (.row b (at_.map iav ++ tl) :: n3.bx :: (bfO s4.to (tcells s4.ts ++ s4.tt) :: bfO s4.no (s4.ns.map AV.str ++ s4.nt) :: bfO s4.vo (s4.vs.map iav ++ s4.vt) :: (s4.ts.map TE.row ++ n3.rest))) from ?_) (AW.perm (List.Perm.trans (.swap _ _ _) (.cons _ (.swap _ _ _))) ?_)
 ·subst hs4
  simp only [WS.box, hns, hvs, List.map_append, List.append_assoc, v3]
  try rfl
 repeat' (first | refine AW.re 5 2 ?_ | fail)
 exact AW.retv rfl ⟨rfl, s4, n3, rfl, ⟨by rw [hs4]; exact hN, by rw [hs4]; exact hB, by rw [hs4]; exact hts, by rw [hs4], by rw [hs4], ok4⟩, nb, nf, hk⟩
abbrev LT := List (ByteArray × Nat)
mutual
def okF (N : Nat) : GFml → LT → Prop
 | ⟨k, ar, nm, vars, args, kids⟩, L =>
  (k = 0 → ∀ c, lkT L nm = some c → c = N ^ args.length ∧ c ≤ 4096) ∧ (k = 8 ∨ k = 9 → N ^ vars.length ≤ 4096) ∧ (k = 10 → N ^ (vars.length / 2) ≤ 4096) ∧ (k = 11 → N ^ ar.toNat ≤ 16) ∧
  (k ≠ 0 → okFL N kids (if k = 8 ∨ k = 9 then L ++ [(nm, N ^ vars.length)] else if k = 11 then L ++ [(nm, N ^ ar.toNat)] else L))
def okFL (N : Nat) : List GFml → LT → Prop
 | [], _ => True
 | x :: l, L => okF N x L ∧ okFL N l L
end
theorem okF_eq (N : Nat) (f : GFml) (L : LT) : okF N f L = ((f.Kind = 0 → ∀ c, lkT L f.Name = some c → c = N ^ f.Args.length ∧ c ≤ 4096) ∧ (f.Kind = 8 ∨ f.Kind = 9 → N ^ f.Vars.length ≤ 4096) ∧ (f.Kind = 10 → N ^ (f.Vars.length / 2) ≤ 4096) ∧ (f.Kind = 11 → N ^ f.Arity.toNat ≤ 16) ∧
  (f.Kind ≠ 0 → okFL N f.Kids (if f.Kind = 8 ∨ f.Kind = 9 then L ++ [(f.Name, N ^ f.Vars.length)] else if f.Kind = 11 then L ++ [(f.Name, N ^ f.Arity.toNat)] else L))) := by
 cases f; rw [okF]
theorem okFL_mem {N : Nat} {L : LT} : ∀ {l : List GFml}, okFL N l L → ∀ x ∈ l, okF N x L
 | [], _, x, h => by cases h
 | y :: l, h, x, hx => by
  rw [okFL] at h
  rcases List.mem_cons.1 hx with rfl | hx
  ·exact h.1
  ·exact okFL_mem h.2 x hx
theorem lkL_push {L L' : LT} {nm s : ByteArray} {c : Nat} (h : s ≠ nm → lkT L s = lkT L' s) : lkT (L ++ [(nm, c)]) s = lkT (L' ++ [(nm, c)]) s := by
 rw [lkT_snoc, lkT_snoc]
 by_cases e : nm = s
 ·simp [e]
 ·simp only [e, if_false]; exact h fun x => e x.symm
mutual
theorem okF_env (N : Nat) : ∀ (f : GFml) (L L' : LT), (∀ s, ocs s f = true → lkT L s = lkT L' s) → okF N f L → okF N f L'
 | ⟨k, ar, nm, vars, args, kids⟩, L, L', h, ho => by
  rw [okF] at ho ⊢
  obtain ⟨h1, h2, h3, h4, h5⟩ := ho
  refine ⟨fun hk c hc => h1 hk c ?_, h2, h3, h4, fun h0 => ?_⟩
  ·rw [h nm (by rw [ocs, hk]; simp)]; exact hc
  ·have h5 := h5 h0
   have hb : ∀ s, ocsL s kids = true → ((k = 8 ∨ k = 9 ∨ k = 11) → s ≠ nm) → lkT L s = lkT L' s := fun s hs hn => by
    refine h s ?_
    rw [ocs]
    have e0 : (k == 0) = false := by simpa using h0
    rw [e0]
    simp only [cond_false]
    by_cases e : (bindsB ⟨k, ar, nm, vars, args, kids⟩ && decide (nm = s)) = true
    ·exfalso
     simp only [bindsB, bA, Bool.or_eq_true, beq_iff_eq, dT] at e
     exact hn (by rcases e.1 with (e1 | e1) | e1 <;> simp [e1]) e.2.symm
    ·rw [Bool.not_eq_true] at e
     rw [e]; exact hs
   by_cases h8 : k = 8 ∨ k = 9
   ·rw [if_pos h8] at h5 ⊢
    exact okFL_env N kids _ _ (fun s hs => lkL_push fun hn => hb s hs fun _ => hn) h5
   ·rw [if_neg h8] at h5 ⊢
    by_cases h11 : k = 11
    ·rw [if_pos h11] at h5 ⊢
     exact okFL_env N kids _ _ (fun s hs => lkL_push fun hn => hb s hs fun _ => hn) h5
    ·rw [if_neg h11] at h5 ⊢
     exact okFL_env N kids _ _ (fun s hs => hb s hs fun e => by omega) h5
theorem okFL_env (N : Nat) : ∀ (l : List GFml) (L L' : LT), (∀ s, ocsL s l = true → lkT L s = lkT L' s) → okFL N l L → okFL N l L'
 | [], _, _, _, _ => by rw [okFL]; trivial
 | x :: l, L, L', h, ho => by
  rw [okFL] at ho ⊢
  exact ⟨okF_env N x L L' (fun s hs => h s (by rw [ocsL, hs, Bool.true_or])) ho.1, okFL_env N l L L' (fun s hs => h s (by rw [ocsL, hs, Bool.or_true])) ho.2⟩
end
def tl (T : TT) : LT := T.map fun p => (p.1, p.2.length)
theorem tl_push (T : TT) (nm : ByteArray) (X : List Bool) : tl (T ++ [(nm, X)]) = tl T ++ [(nm, X.length)] := by simp [tl]
theorem lkT_tl : ∀ (T : TT) (s : ByteArray), lkT (tl T) s = (lkT T s).map List.length
 | [], _ => rfl
 | p :: T, s => by
  have ih := lkT_tl T s
  unfold tl at ih ⊢
  rw [List.map_cons, lkT, lkT, ih]
  cases lkT T s with
  | some b => rfl
  | none => simp only [Option.map_none]; split <;> rfl
theorem lfpR_len {S : List Bool → List Bool} {m : Nat} (hS : ∀ X, (S X).length = m) : ∀ (k : Nat) (X : List Bool), X.length = m → (lfpR S k X).length = m
 | 0, X, h => h
 | k + 1, X, h => by
  rw [lfpR]
  split
  ·exact h
  ·exact lfpR_len hS k _ (hS X)
theorem pfpR_len {S : List Bool → List Bool} {m : Nat} (hS : ∀ X, (S X).length = m) : ∀ (k : Nat) (seen : List (List Bool)) (X Y : List Bool), X.length = m → pfpR S k seen X = some Y → Y.length = m
 | 0, _, X, Y, _, h => by cases h
 | k + 1, seen, X, Y, hx, h => by
  rw [pfpR] at h
  split at h
  ·rw [← Option.some.inj h]; exact hx
  ·split at h
   ·cases h
   ·split at h
    ·cases h
    ·exact pfpR_len hS k _ _ Y (hS X) h
def stg (N M : Nat) (f : GFml) (T : TT) (V : VV) (X : List Bool) : List Bool := (List.range (N ^ f.Vars.length)).map fun i => semH N M f.Kids (T ++ [(f.Name, X)]) (V ++ f.Vars.zip (tup N f.Vars.length i))
def tcT (N M : Nat) (f : GFml) (T : TT) (V : VV) : List Bool := (List.range (N ^ f.Vars.length)).map fun i => semH N M f.Kids T (V ++ f.Vars.zip (tup N f.Vars.length i))
theorem stg_len (N M : Nat) (f : GFml) (T : TT) (V : VV) (X : List Bool) : (stg N M f T V X).length = N ^ f.Vars.length := by simp [stg]
def fixO (N M : Nat) (f : GFml) (T : TT) (V : VV) : Option (List Bool) :=
 if f.Kind = 8 then some (lfpR (stg N M f T V) (N ^ f.Vars.length + 1) (falses (N ^ f.Vars.length))) else pfpR (stg N M f T V) M [] (falses (N ^ f.Vars.length))
theorem falses_len (m : Nat) : (falses m).length = m := by simp [falses]
theorem fixO_len {N M : Nat} {f : GFml} {T : TT} {V : VV} {X : List Bool} (h : fixO N M f T V = some X) : X.length = N ^ f.Vars.length := by
 unfold fixO at h
 split at h
 ·rw [← Option.some.inj h]; exact lfpR_len (stg_len N M f T V) _ _ (falses_len _)
 ·exact pfpR_len (stg_len N M f T V) _ _ _ _ (falses_len _) h
theorem sem_fix (N M : Nat) (f : GFml) (T : TT) (V : VV) (h : f.Kind = 8 ∨ f.Kind = 9) : sem N M f T V = match fixO N M f T V with | none => false | some X => X.getD (rankI N (f.Args.map (val V)) 0).toNat false := by
 obtain ⟨k, ar, nm, vars, args, kids⟩ := f
 simp only at h
 rcases h with rfl | rfl <;> (rw [sem]; rfl)
theorem sem_tc (N M : Nat) (f : GFml) (T : TT) (V : VV) (h : f.Kind = 10) : sem N M f T V = cloR (fun x y => semH N M f.Kids T (V ++ f.Vars.zip (tup N (f.Vars.length / 2) x ++ tup N (f.Vars.length / 2) y))) (N ^ (f.Vars.length / 2)) (rankI N ((f.Args.map (val V)).take (f.Vars.length / 2)) 0).toNat (N ^ (f.Vars.length / 2)) (rankI N ((f.Args.map (val V)).drop (f.Vars.length / 2)) 0).toNat := by
 obtain ⟨k, ar, nm, vars, args, kids⟩ := f
 simp only at h
 subst h
 rw [sem]; rfl
theorem sem_sec (N M : Nat) (f : GFml) (T : TT) (V : VV) (h : f.Kind = 11) : sem N M f T V = gsR (fun X => semH N M f.Kids (T ++ [(f.Name, X)]) V) (2 ^ (N ^ f.Arity.toNat)) (falses (N ^ f.Arity.toNat)) := by
 obtain ⟨k, ar, nm, vars, args, kids⟩ := f
 simp only at h
 subst h
 rw [sem]; rfl
def aloneOk (f : GFml) (fr : Bool) (names : List ByteArray) : Prop := (fr = true → ∀ s, fvBL s f.Kids = true → s ∈ f.Vars) ∧ (∀ s, ocsL s f.Kids = true → s = f.Name ∨ s ∈ names) ∧ names.length ≤ 100000
def tabOk (N M : Nat) (T0 : TT) (f : GFml) (nn : Bool) (X : List Bool) : Prop :=
 (f.Kind = 8 ∨ f.Kind = 9 → (nn = false → fixO N M f T0 [] = some X) ∧ (nn = true → fixO N M f T0 [] = none)) ∧ (f.Kind = 10 → X = tcT N M f T0 [])
def mOk (N M : Nat) (T0 : TT) (f : GFml) : Mm → Prop
 | .m0 => True
 | .m1 fr names => aloneOk f fr names
 | .m2 fr names nn tab => aloneOk f fr names ∧ fr = true ∧ tabOk N M T0 f nn tab.bits
mutual
def KOk (N M : Nat) (T0 : TT) : NT → Prop
 | .mk b f m kids => mOk N M T0 f m ∧ kids.map NT.f = f.Kids ∧ KOkL N M T0 kids
def KOkL (N M : Nat) (T0 : TT) : List NT → Prop
 | [] => True
 | n :: l => KOk N M T0 n ∧ KOkL N M T0 l
end
theorem KOk_eq (N M : Nat) (T0 : TT) (n : NT) : KOk N M T0 n = (mOk N M T0 n.f n.m ∧ n.kids.map NT.f = n.f.Kids ∧ KOkL N M T0 n.kids) := by
 cases n; rw [KOk]; rfl
theorem KOkL_mem {N M : Nat} {T0 : TT} : ∀ {l : List NT}, KOkL N M T0 l → ∀ x ∈ l, KOk N M T0 x
 | [], _, x, h => by cases h
 | y :: l, h, x, hx => by
  rw [KOkL] at h
  rcases List.mem_cons.1 hx with rfl | hx
  ·exact h.1
  ·exact KOkL_mem h.2 x hx
def Alone (T : TT) (base : Nat) (f : GFml) : Prop := (∀ s, fvBL s f.Kids = true → s ∈ f.Vars) ∧ ∀ s, ocsL s f.Kids = true → s ≠ f.Name → lkT (T.drop base) s = none
theorem alone_lk {T : TT} {base : Nat} {s : ByteArray} (h : lkT (T.drop base) s = none) : lkT T s = lkT (T.take base) s := by
 conv => lhs; rw [← List.take_append_drop base T]
 rw [lkT_app, h]
theorem shsF_kids {f : GFml} (h : shsF f = true) : shsFs f.Kids = true := by
 rw [shsF_eq, bA] at h; exact h.1
theorem alone_sem {N M : Nat} {T : TT} {V : VV} {base : Nat} {f : GFml} (hs : shsF f = true) (h : Alone T base f) (hn : ∀ s, ocsL s f.Kids = true → s = f.Name → False) (t : List Int) (ht : t.length = f.Vars.length) :
  semH N M f.Kids T (V ++ f.Vars.zip t) = semH N M f.Kids (T.take base) ([] ++ f.Vars.zip t) :=
 (sem_envL N M f.Kids _ _ _ _ (shsF_kids hs) (fun s hs' => alone_lk (h.2 s hs' fun e => hn s hs' e)) (VEq.push (f := fun _ => false) (fun s hs' => by cases hs') (fun s hs' hm => (hm (h.1 s hs')).elim) t ht)).1
theorem alone_semX {N M : Nat} {T : TT} {V : VV} {base : Nat} {f : GFml} (hs : shsF f = true) (h : Alone T base f) (X : List Bool) (t : List Int) (ht : t.length = f.Vars.length) :
  semH N M f.Kids (T ++ [(f.Name, X)]) (V ++ f.Vars.zip t) = semH N M f.Kids (T.take base ++ [(f.Name, X)]) ([] ++ f.Vars.zip t) := by
 refine (sem_envL N M f.Kids _ _ _ _ (shsF_kids hs) (fun s hs' => ?_) (VEq.push (f := fun _ => false) (fun s hs' => by cases hs') (fun s hs' hm => (hm (h.1 s hs')).elim) t ht)).1
 rw [lkT_snoc, lkT_snoc]
 by_cases e : f.Name = s
 ·rw [if_pos e, if_pos e]
 ·rw [if_neg e, if_neg e]; exact alone_lk (h.2 s hs' fun x => e x.symm)
theorem alone_stg {N M : Nat} {T : TT} {V : VV} {base : Nat} {f : GFml} (hs : shsF f = true) (h : Alone T base f) (X : List Bool) : stg N M f T V X = stg N M f (T.take base) [] X := by
 unfold stg
 exact List.map_congr_left fun i _ => alone_semX hs h X _ (tup_len _ _ _)
theorem alone_fixO {N M : Nat} {T : TT} {V : VV} {base : Nat} {f : GFml} (hs : shsF f = true) (h : Alone T base f) : fixO N M f T V = fixO N M f (T.take base) [] := by
 unfold fixO
 rw [show stg N M f T V = stg N M f (T.take base) [] from funext fun X => alone_stg hs h X]
theorem alone_tcT {N M : Nat} {T : TT} {V : VV} {base : Nat} {f : GFml} (hs : shsF f = true) (h : Alone T base f) (hn : ∀ s, ocsL s f.Kids = true → s = f.Name → False) : tcT N M f T V = tcT N M f (T.take base) [] := by
 unfold tcT
 exact List.map_congr_left fun i _ => alone_sem hs h hn _ (tup_len _ _ _)
theorem cloR_succ (R : Nat → Nat → Bool) (L a k y : Nat) : cloR R L a (k + 1) y = (cloR R L a k y || (List.range L).any fun x => cloR R L a k x && R x y) := by rw [cloR]
theorem cloR_mono (R : Nat → Nat → Bool) (L a : Nat) : ∀ (j k y : Nat), cloR R L a k y = true → cloR R L a (k + j) y = true
 | 0, k, y, h => h
 | j + 1, k, y, h => by rw [← Nat.add_assoc, cloR_succ, cloR_mono R L a j k y h, Bool.true_or]
def clT (R : Nat → Nat → Bool) (L a k : Nat) : List Bool := (List.range L).map (cloR R L a k)
theorem clT_len (R : Nat → Nat → Bool) (L a k : Nat) : (clT R L a k).length = L := by simp [clT]
theorem clT_eq {R : Nat → Nat → Bool} {L a j k : Nat} : clT R L a j = clT R L a k ↔ ∀ x, x < L → cloR R L a j x = cloR R L a k x := by
 unfold clT
 rw [List.map_inj_left]
 simp
theorem any_range_congr {L : Nat} {P Q : Nat → Bool} (h : ∀ x, x < L → P x = Q x) : (List.range L).any P = (List.range L).any Q := by
 rw [Bool.eq_iff_iff, List.any_eq_true, List.any_eq_true]
 constructor <;> (rintro ⟨x, hx, hp⟩; have := h x (List.mem_range.1 hx); exact ⟨x, hx, by rw [← hp, this]⟩)
theorem clT_step {R : Nat → Nat → Bool} {L a k : Nat} (h : clT R L a (k + 1) = clT R L a k) : clT R L a (k + 2) = clT R L a (k + 1) := by
 rw [clT_eq] at h ⊢
 intro y hy
 rw [cloR_succ R L a (k + 1) y, h y hy, any_range_congr (Q := fun x => cloR R L a k x && R x y) fun x hx => by rw [h x hx], ← cloR_succ, h y hy]
theorem clT_stay {R : Nat → Nat → Bool} {L a k : Nat} (h : clT R L a (k + 1) = clT R L a k) : ∀ j, clT R L a (k + j) = clT R L a k ∧ clT R L a (k + j + 1) = clT R L a (k + j)
 | 0 => ⟨rfl, h⟩
 | j + 1 => by
  obtain ⟨h1, h2⟩ := clT_stay h j
  exact ⟨h2.trans h1, clT_step h2⟩
theorem getD_map_range (L : Nat) (P : Nat → Bool) (i : Nat) : ((List.range L).map P).getD i false = (decide (i < L) && P i) := by
 rw [List.getD_eq_getElem?_getD, List.getElem?_map]
 by_cases h : i < L
 ·rw [List.getElem?_range h]; simp [h]
 ·rw [List.getElem?_eq_none (by simpa using h)]; simp [h]
theorem clT_grow (R : Nat → Nat → Bool) (L a : Nat) : ∀ k, (∃ j, j < k ∧ clT R L a (j + 1) = clT R L a j) ∨ k ≤ cntB (clT R L a k)
 | 0 => .inr (Nat.zero_le _)
 | k + 1 => by
  by_cases e : clT R L a (k + 1) = clT R L a k
  ·exact .inl ⟨k, Nat.lt_succ_self k, e⟩
  ·rcases clT_grow R L a k with ⟨j, hj, h⟩ | h
   ·exact .inl ⟨j, by omega, h⟩
   ·refine .inr ?_
    have := cnt_lt (clT R L a k) (clT R L a (k + 1)) (by rw [clT_len, clT_len]) (fun i hi => by
     rw [clT, getD_map_range, bA] at hi ⊢
     exact ⟨hi.1, cloR_mono R L a 1 k i hi.2⟩) fun x => e x.symm
    omega
theorem clo_all (R : Nat → Nat → Bool) (L a m y : Nat) (hy : y < L) (h : cloR R L a m y = true) : cloR R L a L y = true := by
 rcases clT_grow R L a (L + 1) with ⟨j, hj, hs⟩ | hc
 ·have key : ∀ i, cloR R L a (j + i) y = cloR R L a j y := fun i => clT_eq.1 (clT_stay hs i).1 y hy
  have hL : cloR R L a L y = cloR R L a j y := by have := key (L - j); rwa [show j + (L - j) = L by omega] at this
  rw [hL]
  by_cases hm : m ≤ j
  ·have := cloR_mono R L a (j - m) m y h; rwa [show m + (j - m) = j by omega] at this
  ·have := key (m - j); rw [show j + (m - j) = m by omega] at this; rw [← this]; exact h
 ·have := cnt_le (clT R L a (L + 1)); rw [clT_len] at this; omega
structure BI (R : Nat → Nat → Bool) (L a : Nat) (met : List Bool) (todo : List Nat) : Prop where
 len : met.length = L
 td : ∀ x ∈ todo, met.getD x false = true
 sound : ∀ y, met.getD y false = true → ∃ k, cloR R L a k y = true
 start : met.getD a false = true
 closed : ∀ x, met.getD x false = true → x ∉ todo → ∀ y, y < L → R x y = true → met.getD y false = true
structure BJ (R : Nat → Nat → Bool) (L a : Nat) (met : List Bool) (todo : List Nat) (x j : Nat) : Prop where
 len : met.length = L
 td : ∀ x ∈ todo, met.getD x false = true
 sound : ∀ y, met.getD y false = true → ∃ k, cloR R L a k y = true
 start : met.getD a false = true
 closed : ∀ x', met.getD x' false = true → x' ∉ todo → x' ≠ x → ∀ y, y < L → R x' y = true → met.getD y false = true
 here : ∀ y, y < j → R x y = true → met.getD y false = true
 xm : met.getD x false = true
section
variable {R : Nat → Nat → Bool} {L a : Nat} {met : List Bool} {todo : List Nat} {x j : Nat}
theorem getD_lt {l : List Bool} {i : Nat} (h : l.getD i false = true) : i < l.length := by
 by_cases hl : i < l.length
 ·exact hl
 ·rw [List.getD_eq_getElem?_getD, List.getElem?_eq_none (by omega)] at h; cases h
theorem getD_set (l : List Bool) (i j : Nat) (hi : i < l.length) : (l.set i true).getD j false = (decide (i = j) || l.getD j false) := by
 rw [List.getD_eq_getElem?_getD, List.getD_eq_getElem?_getD, List.getElem?_set]
 by_cases e : i = j
 ·subst e; simp [hi]
 ·simp [e]
theorem BI.init (ha : a < L) : BI R L a ((falses L).set a true) [a] := by
 have hl : a < (falses L).length := by rw [falses_len]; exact ha
 have hf : ∀ y, (falses L).getD y false = false := fun y => by
  unfold falses; rw [List.getD_eq_getElem?_getD, List.getElem?_replicate]; split <;> rfl
 have hg : ∀ y, ((falses L).set a true).getD y false = true ↔ a = y := fun y => by rw [getD_set _ _ _ hl, hf]; simp
 refine ⟨by rw [List.length_set, falses_len], fun x hx => ?_, fun y hy => ⟨0, ?_⟩, (hg a).2 rfl, fun x hx hn => ?_⟩
 ·rw [List.mem_singleton.1 hx]; exact (hg a).2 rfl
 ·rw [cloR, (hg y).1 hy]; simp
 ·exact (hn (by rw [(hg x).1 hx]; simp)).elim
theorem BI.pop (h : BI R L a met (x :: todo)) : BJ R L a met todo x 0 :=
 ⟨h.len, fun y hy => h.td y (by simp [hy]), h.sound, h.start, fun x' h1 h2 h3 => h.closed x' h1 (by simp [h2, h3]), fun y hy => by omega, h.td x (by simp)⟩
theorem BJ.no (h : BJ R L a met todo x j) (hn : met.getD j false = true ∨ R x j = false) : BJ R L a met todo x (j + 1) := by
 refine ⟨h.len, h.td, h.sound, h.start, h.closed, fun y hy hr => ?_, h.xm⟩
 by_cases e : y = j
 ·subst e
  rcases hn with hn | hn
  ·exact hn
  ·rw [hn] at hr; cases hr
 ·exact h.here y (by omega) hr
theorem BJ.yes (h : BJ R L a met todo x j) (hj : j < L) (hr : R x j = true) : BJ R L a (met.set j true) (todo ++ [j]) x (j + 1) := by
 have hl : j < met.length := by rw [h.len]; exact hj
 have hg : ∀ y, (met.set j true).getD y false = true ↔ j = y ∨ met.getD y false = true := fun y => by rw [getD_set _ _ _ hl]; simp
 have up : ∀ y, met.getD y false = true → (met.set j true).getD y false = true := fun y hy => (hg y).2 (.inr hy)
 refine ⟨by rw [List.length_set, h.len], fun y hy => ?_, fun y hy => ?_, up _ h.start, fun x' h1 h2 h3 y hy hr' => ?_, fun y hy hr' => ?_, up _ h.xm⟩
 ·rcases List.mem_append.1 hy with hy | hy
  ·exact up _ (h.td y hy)
  ·rw [List.mem_singleton.1 hy]; exact (hg j).2 (.inl rfl)
 ·rcases (hg y).1 hy with rfl | hy
  ·obtain ⟨k, hk⟩ := h.sound x h.xm
   refine ⟨k + 1, ?_⟩
   rw [cloR_succ, Bool.or_eq_true]
   exact .inr (List.any_eq_true.2 ⟨x, List.mem_range.2 (by rw [← h.len]; exact getD_lt h.xm), by simp [hk, hr]⟩)
  ·exact h.sound y hy
 ·rcases (hg x').1 h1 with rfl | h1
  ·exact (h2 (by simp)).elim
  ·exact up _ (h.closed x' h1 (fun e => h2 (by simp [e])) h3 y hy hr')
 ·by_cases e : y = j
  ·subst e; exact (hg y).2 (.inl rfl)
  ·exact up _ (h.here y (by omega) hr')
theorem BJ.done (h : BJ R L a met todo x L) : BI R L a met todo :=
 ⟨h.len, h.td, h.sound, h.start, fun x' h1 h2 y hy hr => by
  by_cases e : x' = x
  ·subst e; exact h.here y hy hr
  ·exact h.closed x' h1 h2 e y hy hr⟩
theorem BI.fin (h : BI R L a met []) (y : Nat) (hy : y < L) : met.getD y false = cloR R L a L y := by
 rw [Bool.eq_iff_iff]
 constructor
 ·intro hm
  obtain ⟨k, hk⟩ := h.sound y hm
  exact clo_all R L a k y hy hk
 ·have key : ∀ k y, y < L → cloR R L a k y = true → met.getD y false = true := by
   intro k
   induction k with
   | zero =>
    intro y hy hc
    rw [cloR, beq_iff_eq] at hc
    rw [hc]; exact h.start
   | succ k ih =>
    intro y hy hc
    rw [cloR_succ, Bool.or_eq_true] at hc
    rcases hc with hc | hc
    ·exact ih y hy hc
    ·obtain ⟨x, hx, hc⟩ := List.any_eq_true.1 hc
     rw [bA] at hc
     exact h.closed x (ih x (List.mem_range.1 hx) hc.1) (by simp) y hy hc.2
  exact key L y hy
theorem cnt_set (hj : j < met.length) (hn : met.getD j false = false) : cntB met < cntB (met.set j true) := by
 refine cnt_lt _ _ (by rw [List.length_set]) (fun i hi => by rw [getD_set _ _ _ hj, hi, Bool.or_true]) fun e => ?_
 have := getD_set met j j hj
 rw [← e, hn] at this
 simp at this
end
theorem Tri.reorder {P : Program} {f : FuncId} {args : List AV} {ah ah' : AH} {Φ Ψ : AEnd → AH → Prop} (h : Tri P f args ah Φ) (p : ah'.Perm ah) (k : ∀ x h, Φ x h → ∃ h', Ψ x h' ∧ h.Perm h') : Tri P f args ah' Ψ :=
 ⟨h.1, fun Fr w vs hst hrel => ((permPre h p).2 Fr w vs hst hrel).mono fun e w' he => he.reorder k⟩
theorem perm_kid {α : Type} (x y : α) (W A P R Q : List α) : (x :: (W ++ (A ++ (P ++ (y :: R ++ Q))))).Perm (y :: (W ++ R) ++ x :: (A ++ (P ++ Q))) := by
 classical
 rw [List.perm_iff_count]
 intro a
 simp only [List.count_cons, List.count_append]
 omega
theorem nownL_app : ∀ a b : List NT, nownL (a ++ b) = nownL a ++ nownL b
 | [], b => by rw [nownL]; rfl
 | n :: a, b => by rw [List.cons_append, nownL, nownL, nownL_app a b, List.append_assoc]
def NT.put (n : NT) (i : Nat) (k : NT) : NT := .mk n.b n.f n.m (n.kids.set i k)
theorem NT.put_b (n : NT) (i : Nat) (k : NT) : (n.put i k).b = n.b := rfl
theorem NT.put_f (n : NT) (i : Nat) (k : NT) : (n.put i k).f = n.f := rfl
theorem NT.put_m (n : NT) (i : Nat) (k : NT) : (n.put i k).m = n.m := rfl
theorem NT.put_kids (n : NT) (i : Nat) (k : NT) : (n.put i k).kids = n.kids.set i k := rfl
theorem NT.put_get {n : NT} {i : Nat} {k k' : NT} (h : n.kids[i]? = some k) : (n.put i k').kids[i]? = some k' := by
 rw [NT.put_kids, List.getElem?_set_self (List.getElem?_eq_some_iff.1 h).1]
theorem set_of_mid {α : Type} {l : List α} {i : Nat} {x : α} (h : l[i]? = some x) (y : α) : l = l.take i ++ x :: l.drop (i + 1) ∧ l.set i y = l.take i ++ y :: l.drop (i + 1) :=
 ⟨(mem_split h).1, (mem_split h).2 y⟩
theorem map_set_same {α β : Type} {g : α → β} {l : List α} {i : Nat} {x y : α} (h : l[i]? = some x) (e : g y = g x) : (l.set i y).map g = l.map g := by
 obtain ⟨h1, h2⟩ := set_of_mid h y
 rw [h2]
 conv => rhs; rw [h1]
 simp only [List.map_append, List.map_cons, e]
theorem hH_kid (bw : Nat) (s : WS) {n k : NT} {i : Nat} (h : n.kids[i]? = some k) : ∃ rest : AH, (hH bw s n).Perm (hH bw s k ++ n.bx :: rest) ∧ ∀ (s' : WS) (k' : NT), k'.b = k.b → (hH bw s' k' ++ n.bx :: rest).Perm (hH bw s' (n.put i k')) := by
 have key : ∀ (s' : WS) (k' : NT), k'.b = k.b → (hH bw s' (n.put i k')).Perm (hH bw s' k' ++ n.bx :: (n.m.own ++ (nownL (n.kids.take i) ++ nownL (n.kids.drop (i + 1))))) := fun s' k' hb => by
  have hbx : (n.put i k').bx = n.bx := by
   unfold NT.bx; rw [NT.put_b, NT.put_f, NT.put_m, NT.put_kids, map_set_same h hb]
  unfold hH NT.rest
  rw [hbx, NT.put_m, NT.put_kids, (set_of_mid h k').2, nownL_app, nownL, nown_eq]
  exact perm_kid n.bx k'.bx (wH bw s') n.m.own (nownL (n.kids.take i)) k'.rest _
 refine ⟨_, ?_, fun s' k' hb => (key s' k' hb).symm⟩
 have := key s k rfl
 have e : n.put i k = n := by
  cases n with
  | mk b f m kids =>
   show NT.mk b f m (kids.set i k) = _
   have h' : kids[i]? = some k := h
   rw [(set_of_mid h' k).2, ← (set_of_mid h' k).1]
 rwa [e] at this
def GPost (bw : Nat) (n : NT) (Q : AEnd → WS → NT → AH → Prop) : AEnd → AH → Prop := fun x h => ∃ s' n' Z, h = Z ++ hH bw s' n' ∧ n'.b = n.b ∧ n'.f = n.f ∧ Q x s' n' Z
theorem HPost.g {bw : Nat} {s : WS} {n : NT} {K : NT → Prop} {v : AV} {Y : AH} {x : AEnd} {h : AH} (hp : HPost bw s n K v Y x h) : GPost bw n (fun x s' n' Z => x = .ret v ∧ Z = Y ∧ Same s s' ∧ K n') x h := by
 obtain ⟨e, s', n', rfl, hs, hb, hf, hk⟩ := hp
 exact ⟨s', n', Y, rfl, hb, hf, e, rfl, hs, hk⟩
theorem GPost.h {bw : Nat} {s : WS} {n : NT} {K : NT → Prop} {v : AV} {Y : AH} {x : AEnd} {h : AH} (hp : GPost bw n (fun x s' n' Z => x = .ret v ∧ Z = Y ∧ Same s s' ∧ K n') x h) : HPost bw s n K v Y x h := by
 obtain ⟨s', n', Z, rfl, hb, hf, e, rfl, hs, hk⟩ := hp
 exact ⟨e, s', n', rfl, hs, hb, hf, hk⟩
theorem kidTri {P : Program} {bw : Nat} {s : WS} {n k : NT} {i : Nat} (h : n.kids[i]? = some k) {f : FuncId} {args : List AV} {Y : AH} {Q : AEnd → WS → NT → AH → Prop} (t : Tri P f args (Y ++ hH bw s k) (GPost bw k Q)) :
  Tri P f args (Y ++ hH bw s n) (GPost bw n fun x s' n' Z => ∃ k', n' = n.put i k' ∧ k'.b = k.b ∧ k'.f = k.f ∧ Q x s' k' Z) := by
 obtain ⟨rest, p1, p2⟩ := hH_kid bw s h
 refine Tri.reorder (t.behind (n.bx :: rest)) ((p1.append_left Y).trans (by rw [List.append_assoc])) ?_
 rintro x hh ⟨_, ⟨s', k', Z, rfl, hb, hf, hq⟩, rfl⟩
 exact ⟨Z ++ hH bw s' (n.put i k'), ⟨s', n.put i k', Z, rfl, rfl, rfl, k', rfl, hb, hf, hq⟩, by rw [List.append_assoc]; exact (p2 s' k' hb).append_left Z⟩
theorem kidH {P : Program} {bw : Nat} {s : WS} {n k : NT} {i : Nat} (h : n.kids[i]? = some k) {f : FuncId} {args : List AV} {Y Y' : AH} {K K' : NT → Prop} {v : AV} (t : Tri P f args (Y ++ hH bw s k) (HPost bw s k K v Y'))
  (hK : ∀ k', k'.b = k.b → k'.f = k.f → K k' → K' (n.put i k')) : Tri P f args (Y ++ hH bw s n) (HPost bw s n K' v Y') :=
 (kidTri h (t.mono fun _ _ q => q.g)).mono fun x hh ⟨s', n', Z, e1, e2, e3, k', e4, e5, e6, e7, e8, e9, e10⟩ => ⟨e7, s', n', by rw [e1, e8], e9, e2, e3, by rw [e4]; exact hK k' e5 e6 e10⟩
theorem KOkL_set {N M : Nat} {T0 : TT} {k' : NT} (hk : KOk N M T0 k') : ∀ {l : List NT} {i : Nat}, KOkL N M T0 l → KOkL N M T0 (l.set i k')
 | [], i, h => by cases i <;> exact h
 | x :: l, 0, h => by rw [KOkL] at h; rw [sB, KOkL]; exact ⟨hk, h.2⟩
 | x :: l, i + 1, h => by rw [KOkL] at h; rw [sA, KOkL]; exact ⟨h.1, KOkL_set hk h.2⟩
theorem KOk_put {N M : Nat} {T0 : TT} {n k k' : NT} {i : Nat} (h : KOk N M T0 n) (hi : n.kids[i]? = some k) (hf : k'.f = k.f) (hk : KOk N M T0 k') : KOk N M T0 (n.put i k') := by
 rw [KOk_eq] at h ⊢
 refine ⟨h.1, ?_, KOkL_set hk h.2.2⟩
 rw [NT.put_kids, map_set_same hi hf]; exact h.2.1
theorem KOk_kid {N M : Nat} {T0 : TT} {n : NT} (h : KOk N M T0 n) {i : Nat} {x : GFml} (hx : n.f.Kids[i]? = some x) : ∃ k, n.kids[i]? = some k ∧ k.f = x ∧ KOk N M T0 k := by
 rw [KOk_eq] at h
 have hl : n.kids.length = n.f.Kids.length := by rw [← h.2.1, lM]
 obtain ⟨k, hk⟩ := get_lt (show i < n.kids.length by have := (List.getElem?_eq_some_iff.1 hx).1; omega)
 refine ⟨k, hk, ?_, KOkL_mem h.2.2 k (lG hk)⟩
 have : (n.kids.map NT.f)[i]? = some k.f := by rw [List.getElem?_map, hk]; rfl
 rw [h.2.1, hx] at this
 exact (Option.some.inj this).symm
theorem tup_zero {n : Nat} : ∀ m, tup n m 0 = List.replicate m 0
 | 0 => rfl
 | m + 1 => by rw [tup, Nat.zero_div, Nat.zero_mod, tup_zero m, List.replicate_succ']; rfl
def HoldsAt (bw : Nat) (K : NT → Prop) (s : WS) (n : NT) (names : List ByteArray) (t : List Int) (v : Bool) : Prop :=
 ∀ (s' : WS) (n' : NT), s'.Ok → s'.N = s.N → s'.base = s.base → s'.ts = s.ts → s'.ns = s.ns ++ names → s'.vs = s.vs ++ t → n'.b = n.b → n'.f = n.f → K n' →
  Tri Tryz.prog 155 [.ref bw 0, .ref n'.b 0] (hH bw s' n') (HPost bw s' n' K (.bool v) [])
theorem tup_next (b n m i : Nat) (hn : 1 ≤ n ∧ n ≤ 64) (hm : m ≤ 100000) (hi : i < n ^ m) :
  Tri Tryz.prog 193 [.osl b m m, .int .i64 n] [.row b ((tup n m i).map iav)] (D (.bool (decide (i + 1 < n ^ m))) [.row b ((tup n m ((i + 1) % n ^ m)).map iav)]) := by
 have h := ref_next b m n (tup n m i) (tup_len n m i) hn (fun x hx => tup_mem (by omega) m i x hx) hm
 rw [nxR_tup (by omega) m i hi] at h
 simpa using h
theorem w_some (bw : Nat) (K : NT → Prop) (φ : Nat → Bool) (nt : Bool) (n : NT) (s : WS) (names : List ByteArray) (hs : s.Ok) (hn : s.ns.length + names.length ≤ 100000) (hk : K n)
  (H : ∀ i, i < s.N ^ names.length → HoldsAt bw K s n names (tup s.N names.length i) (φ i)) :
  Tri Tryz.prog 178 [.ref bw 0, strs names, .ref n.b 0, .bool nt] (hH bw s n) (HPost bw s n K (.bool ((List.range (s.N ^ names.length)).any fun i => φ i != nt)) []) := by
 have hMx : (some (AV.int .i64 (names.map AV.str).length)) = some (.int .i64 (names.length : Nat)) := by rw [lM]
 have hL : 0 < s.N ^ names.length := Nat.pow_pos (by have := hs.n1; omega)
 generalize hLL : s.N ^ names.length = L at *
 refine Tri.enter 27 Tryz.func178 rfl rfl rfl rfl fun Fr w0 => ?_
 repeat' (first | refine AW.re 0 1 ?_ | refine AW.go ?_ | fail)
 repeat' (first | (refine xS 1 2 ?_; refine AL.makeSlice (n := names.length) (e := 3) (c := .int .i64 0) (z := .int .i64 0) (bytes := 8) hMx hMx (by kernel_rfl) rfl (by omega) (by omega) rfl fun bt => ?_; refine xN 1 ?_) | refine AW.go ?_ | fail)
 refine AW.prune [0, 1, 2, 3, 9] (AW.loop (fun mz af h => ∃ (i : Nat) (s' : WS) (n' : NT), i < L ∧ mz = L - i ∧ af = [(0, .ref bw 0), (1, strs names), (2, .ref n.b 0), (3, .bool nt), (9, .osl bt names.length names.length)] ∧ h = .row bt ((tup s.N names.length i).map iav) :: hH bw s' n' ∧ Same s s' ∧ n'.b = n.b ∧ n'.f = n.f ∧ K n' ∧ ((List.range i).any fun i => φ i != nt) = false) L ⟨0, s, n, hL, rfl, rfl, by rw [tup_zero, List.map_replicate]; rfl, Same.refl hs, rfl, rfl, hk, rfl⟩ ?_)
 rintro mz af h ⟨i, s1, n1, hi, rfl, rfl, rfl, sm, nb, nf, hk1, he⟩
 have htl := tup_len s.N names.length i
 have hW := w_With_own bw K (φ i) n1 s1 names (tup s.N names.length i) bt names.length [] sm.ok htl (by rw [sm.ns]; exact hn) (fun x hx => by rw [sm.N]; exact tup_mem (by have := hs.n1; omega) _ _ x hx)
  (fun s' h1 h2 h3 h4 h5 h6 => H i (by rw [hLL] at *; exact hi) s' n1 h1 (h2.trans sm.N) (h3.trans sm.base) (h4.trans sm.ts) (by rw [h5, sm.ns]) (by rw [h6, sm.vs]) nb nf hk1)
 rw [htl, List.append_nil, nb] at hW
 refine AW.block ?_
 refine AW.seq ?_
 repeat' (first | (refine xS 2 4 ?_; (refine AL.callQ rfl rfl hW rfl ?_ ?_; rotate_left; rintro _ _ ⟨e, _⟩; cases e; rintro _ _ ⟨e, s2, n2, rfl, sm2, nb2, nf2, hk2⟩; injection e with e; subst e) <;> refine AL.es 1 ?_ <;> (refine AL.d AOp.bn ?_) <;> refine AL.nil ?_) | refine AW.re 3 1 ?_ | refine AW.jj (fun hb => ?_) (fun hb => ?_) | refine AW.go ?_ | fail)
 ·refine AW.ret_drop rfl (List.sublist_cons_self _ _) ⟨congrArg (fun b => AEnd.ret (AV.bool b)) ?_, s2, n2, rfl, sm.trans sm2, nb2.trans nb, nf2.trans nf, hk2⟩
  symm
  rw [List.any_eq_true]
  exact ⟨i, List.mem_range.2 hi, hb⟩
 ·have hN2 : s2.N = s.N := by rw [sm2.N, sm.N]
  have he2 : ((List.range (i + 1)).any fun i => φ i != nt) = false := by
   have h1 : (φ i != nt) = false := hb
   rw [List.range_succ, List.any_append, he, List.any_cons, h1]; rfl
  have hX : Tri Tryz.prog 193 [.osl bt names.length names.length, .int .i64 s2.N] (.row bt ((tup s.N names.length i).map iav) :: hH bw s2 n2) (D (.bool (decide (i + 1 < L))) (.row bt ((tup s.N names.length ((i + 1) % L)).map iav) :: hH bw s2 n2)) := by
   have := (tup_next bt s.N names.length i ⟨hs.n1, hs.n2⟩ (by omega) (by rw [hLL]; exact hi)).aroundD [] (hH bw s2 n2)
   rw [hLL] at this
   rw [hN2]; exact this
  repeat' (first | (refine xS 4 3 ?_; refine AL.d (AOp.fr 0) ?_; refine AL.d (AOp.ll 2) ?_; refine AL.d (AOp.call rfl rfl hX) ?_; refine xN 1 ?_) | refine AW.jj (fun hb => ?_) (fun hb => ?_) | refine AW.go ?_ | fail)
  ·have hb : decide (i + 1 < L) = false := by simpa using hb
   repeat' (first | refine AW.re 5 1 ?_ | fail)
   refine AW.ret_drop rfl (List.sublist_cons_self _ _) ⟨congrArg (fun b => AEnd.ret (AV.bool b)) ?_, s2, n2, rfl, sm.trans sm2, nb2.trans nb, nf2.trans nf, hk2⟩
   rw [show L = i + 1 by have := of_decide_eq_false hb; omega, he2]
  ·have hb : i + 1 < L := by simpa using hb
   refine AW.again_keep (L - (i + 1)) [0, 1, 2, 3, 9] (by omega) ⟨i + 1, s2, n2, hb, rfl, rfl, ?_, sm.trans sm2, nb2.trans nb, nf2.trans nf, hk2, he2⟩
   rw [Nat.mod_eq_of_lt hb]
def ppow (n : Int) : Nat → Int → Int
 | 0, p => p
 | k + 1, p => if p ≤ 4096 then ppow n k (p * n) else p
theorem ppow_val {n : Nat} (hn : 1 ≤ n) : ∀ (k p : Nat), 1 ≤ p → (p * n ^ k ≤ 4096 → ppow n k p = (p * n ^ k : Nat)) ∧ (ppow n k p ≤ 4096 → p * n ^ k ≤ 4096) ∧ 1 ≤ ppow n k p
 | 0, p, hp => by rw [ppow, Nat.pow_zero, Nat.mul_one]; exact ⟨fun _ => rfl, fun h => by omega, by omega⟩
 | k + 1, p, hp => by
  have e : p * n ^ (k + 1) = (p * n) * n ^ k := by rw [Nat.pow_succ, Nat.mul_comm (n ^ k) n, Nat.mul_assoc]
  obtain ⟨h1, h2, h3⟩ := ppow_val hn k (p * n) (Nat.mul_pos hp hn)
  rw [ppow, e]
  by_cases h : (p : Int) ≤ 4096
  ·rw [if_pos h, ← Int.natCast_mul]; exact ⟨h1, h2, h3⟩
  ·rw [if_neg h]
   refine ⟨fun hle => ?_, fun hle => absurd hle h, by omega⟩
   have : p * 1 ≤ p * n := Nat.mul_le_mul_left p hn
   have : p * n * 1 ≤ p * n * n ^ k := Nat.mul_le_mul_left _ (Nat.pow_pos hn)
   omega
theorem ref_Pow (n k : Int) (hn : 1 ≤ n ∧ n ≤ 64) (hk : 0 ≤ k ∧ k ≤ 1000000) : Tri Tryz.prog 63 [.int .i64 n, .int .i64 k] [] (D (.int .i64 (ppow n k.toNat 1)) []) := by
 refine Tri.enter 20 Tryz.func63 rfl rfl rfl rfl fun Fr w0 => ?_
 repeat' (first | refine AW.re 0 1 ?_ | refine AW.re 1 1 ?_ | refine AW.re 2 1 ?_ | refine AW.go ?_ | fail)
 refine AW.prune [0, 1, 5, 6] (AW.loop (fun mz af h => ∃ (i : Nat) (p : Int), i ≤ k.toNat ∧ mz = k.toNat - i ∧ af = [(0, .int .i64 n), (1, .int .i64 k), (5, .int .i64 p), (6, .int .i64 i)] ∧ h = [] ∧ (1 ≤ p ∧ p ≤ 4096 * 64 ∧ ppow n k.toNat 1 = ppow n (k.toNat - i) p)) k.toNat ⟨0, 1, Nat.zero_le _, rfl, rfl, rfl, ⟨by omega, by omega, rfl⟩⟩ ?_)
 rintro mz af h ⟨i, p, hi, rfl, rfl, rfl, he⟩
 refine AW.seq ?_
 by_cases hlt : i < k.toNat
 all_goals obtain ⟨h1, h2, he⟩ := he
 ·rw [show k.toNat - i = (k.toNat - (i + 1)) + 1 by omega, ppow] at he
  by_cases hp : p ≤ 4096
  ·have m1 : p * 1 ≤ p * n := Int.mul_le_mul_of_nonneg_left hn.1 (by omega)
   have m2 : p * n ≤ 4096 * 64 := Int.mul_le_mul hp hn.2 (by omega) (by omega)
   rw [if_pos hp] at he
   repeat' (first | (refine xS 3 4 ?_; ((refine AL.gx (fun hb => ?_) (fun hb => ?_) <;> refine AL.es 3 ?_)) <;> refine AL.nil ?_) | (refine xS 5 2 ?_; refine AL.d (AOp.mul rfl rfl (by omega)) ?_; refine xN 1 ?_) | (refine xS 4 1 ?_; refine AL.d AOp.ad ?_; refine xN 1 ?_) | refine AW.jf ?_ | refine AW.jj (fun hb => ?_) (fun hb => ?_) | refine AW.go ?_ | fail)
   all_goals try (exfalso; simp only [dT, dF, lM] at *; omega)
   refine AW.again_keep (k.toNat - (i + 1)) [0, 1, 5, 6] (by omega) ⟨i + 1, p * n, hlt, rfl, rfl, rfl, ?_⟩
   exact ⟨by omega, by omega, he⟩
  ·rw [if_neg hp] at he
   repeat' (first | (refine xS 3 4 ?_; ((refine AL.gx (fun hb => ?_) (fun hb => ?_) <;> refine AL.es 3 ?_)) <;> refine AL.nil ?_) | refine AW.re 6 2 ?_ | refine AW.jf ?_ | refine AW.jj (fun hb => ?_) (fun hb => ?_) | refine AW.go ?_ | fail)
   all_goals try (exfalso; simp only [dT, dF, lM] at *; omega)
   exact AW.retv rfl ⟨by rw [he], rfl⟩
 ·rw [show k.toNat - i = 0 by omega, ppow] at he
  repeat' (first | (refine xS 3 4 ?_; ((refine AL.gx (fun hb => ?_) (fun hb => ?_) <;> refine AL.es 3 ?_)) <;> refine AL.nil ?_) | refine AW.re 6 2 ?_ | refine AW.jf ?_ | refine AW.jj (fun hb => ?_) (fun hb => ?_) | refine AW.go ?_ | fail)
  all_goals try (exfalso; simp only [dT, dF, lM] at *; omega)
  exact AW.retv rfl ⟨by rw [he], rfl⟩
theorem ref_PowN (n k : Nat) (hn : 1 ≤ n ∧ n ≤ 64) (hk : k ≤ 1000000) (hp : n ^ k ≤ 4096) : Tri Tryz.prog 63 [.int .i64 n, .int .i64 k] [] (D (.int .i64 (n ^ k : Nat)) []) := by
 have h := ref_Pow n k (by omega) (by omega)
 have e : ppow n k 1 = (n ^ k : Nat) := by have := (ppow_val hn.1 k 1 (Nat.le_refl _)).1 (by omega); rw [Nat.one_mul] at this; exact this
 rw [Int.toNat_natCast, e] at h; exact h
theorem falses_map (m : Nat) : (falses m).map bav = List.replicate m (.bool false) := by unfold falses; rw [List.map_replicate]; rfl
def zTb : AV := .st [.str empB, .int .i64 0, .sl []]
theorem ref_TableNew (n k : Nat) (nm : ByteArray) (hn : 1 ≤ n ∧ n ≤ 64) (hk : k ≤ 1000000) (hp : n ^ k ≤ 4096) :
  Tri Tryz.prog 154 [.int .i64 n, .str nm, .int .i64 k, .sl []] [] (fun x h => ∃ b, x = .ret (.st [.str nm, .int .i64 k, .osl b (n ^ k) (n ^ k)]) ∧ h = [.row b (List.replicate (n ^ k) (.bool false))]) := by
 have hP := ref_PowN n k hn hk hp
 generalize n ^ k = m at *
 refine Tri.enter 34 Tryz.func154 rfl rfl rfl rfl fun Fr w0 => ?_
 repeat' (first | (refine AW.r 0 ?_; refine AL.alloc_z zTb (by kernel_rfl) rfl rfl fun b8 => ?_; refine AL.nil ?_) | refine AW.go ?_ | fail)
 repeat' (first | (refine xS 1 4 ?_; refine AL.d (AOp.call rfl rfl (hP.pure _)) ?_; refine AL.makeSlice (n := m) (e := 4) (c := .bool false) (z := .bool false) (bytes := 1) rfl rfl (by kernel_rfl) rfl (by omega) (by omega) rfl fun b => ?_; refine AL.d (AOp.build (pl := [(0, 1), (1, 1), (2, 1)]) (z := .st [.str ⟨#[]⟩, .int .i64 0, .sl []]) (by kernel_rfl) rfl rfl rfl) ?_ <;> refine AL.alloc_store (by kernel_rfl) rfl rfl rfl rfl ?_ <;> refine AL.nil ?_) | refine AW.re 2 1 ?_ | refine AW.go ?_ | fail)
 refine AW.prune [0, 3, 8, 9, 10] (AW.loop (fun mz af h => ∃ (i : Nat), i ≤ 0 ∧ mz = 0 - i ∧ af = [(0, .int .i64 n), (3, .sl []), (8, .ref b8 0), (9, .at (.st [.str nm, .int .i64 k, .osl b m m])), (10, .int .i64 i)] ∧ h = [.row b (List.replicate m (.bool false)), .box b8 zTb] ∧ True) 0 ⟨0, Nat.zero_le _, rfl, rfl, rfl, trivial⟩ ?_)
 rintro mz af h ⟨i, hi, rfl, rfl, rfl, he⟩
 refine AW.seq ?_
 by_cases hlt : i < 0
 ·omega
 ·repeat' (first | refine AW.re 3 4 ?_ | refine AW.jf ?_ | refine AW.go ?_ | fail)
  all_goals try (exfalso; simp only [dT, dF, List.length_nil] at *; omega)
  repeat' (first | (refine AW.r 6 ?_; refine AL.d AOp.la ?_; refine AL.sl 1 ?_; refine AL.nil ?_) | fail)
  exact AW.retc (vs := [.st [.str nm, .int .i64 k, .osl b m m]]) (.cell 1 rfl rfl (by kernel_rfl) .nil) (ah' := [.row b (List.replicate m (.bool false))]) (by simp) ⟨b, rfl, rfl⟩
theorem ref_same (ba bb m : Nat) (a b : List Bool) (ha : a.length = m) (hb0 : b.length = m) (hm : m ≤ 1000000) :
  Tri Tryz.prog 214 [.osl ba m m, .osl bb m m] [.row ba (a.map bav), .row bb (b.map bav)] (D (.bool (decide (a = b))) [.row ba (a.map bav), .row bb (b.map bav)]) := by
 refine Tri.enter 21 Tryz.func214 rfl rfl rfl rfl fun Fr w0 => ?_
 repeat' (first | refine AW.re 0 1 ?_ | refine AW.re 1 1 ?_ | refine AW.go ?_ | fail)
 refine AW.prune [0, 1, 5] (AW.loop (fun mz af h => ∃ (i : Nat), i ≤ m ∧ mz = m - i ∧ af = [(0, .osl ba m m), (1, .osl bb m m), (5, .int .i64 i)] ∧ h = [.row ba (a.map bav), .row bb (b.map bav)] ∧ decide (a = b) = decide (a.drop i = b.drop i)) m ⟨0, Nat.zero_le _, rfl, rfl, rfl, rfl⟩ ?_)
 rintro mz af h ⟨i, hi, rfl, rfl, rfl, he⟩
 refine AW.seq ?_
 by_cases hlt : i < m
 ·obtain ⟨x, hx⟩ := get_lt (show i < a.length by omega)
  obtain ⟨y, hy⟩ := get_lt (show i < b.length by omega)
  have hx' : (a.map bav)[((i : Nat) : Int).toNat]? = some (bav x) := map_get hx
  have hy' : (b.map bav)[((i : Nat) : Int).toNat]? = some (bav y) := map_get hy
  rw [drop_cons hx, drop_cons hy] at he
  repeat' (first | refine AW.re 2 4 ?_ | (refine AW.dq 4 ?_; refine AQ.es 2 ?_; refine AQ.p rfl (AOp.index_osl rfl rfl (by omega) (by omega) (by kernel_rfl)) ?_; refine AQ.p rfl (AOp.load_cell 0 rfl rfl hx' rfl (by kernel_rfl)) ?_; refine AQ.es 2 ?_; refine AQ.p rfl (AOp.index_osl rfl rfl (by omega) (by omega) (by kernel_rfl)) ?_; refine AQ.p rfl (AOp.load_cell 1 rfl rfl hy' rfl (by kernel_rfl)) ?_; refine AQ.p rfl AOp.bn ?_; refine AQ.nil ?_) | refine AW.re 5 1 ?_ | refine AW.jj (fun hb => ?_) (fun hb => ?_) | refine AW.go ?_ | fail)
  all_goals try (exfalso; simp only [dT, dF, lM] at *; omega)
  ·refine AW.retv rfl ⟨retB ?_, rfl⟩
   rw [he]
   revert hb; cases x <;> cases y <;> simp
  ·repeat' (first | (refine xS 3 1 ?_; refine AL.d AOp.ad ?_; refine xN 1 ?_) | fail)
   refine AW.again_keep (m - (i + 1)) [0, 1, 5] (by omega) ⟨i + 1, hlt, rfl, rfl, rfl, ?_⟩
   rw [he]
   revert hb; cases x <;> cases y <;> simp
 ·rw [List.drop_eq_nil_of_le (by omega), List.drop_eq_nil_of_le (by omega)] at he
  repeat' (first | refine AW.re 2 4 ?_ | refine AW.re 6 1 ?_ | refine AW.jj (fun hb => ?_) (fun hb => ?_) | refine AW.go ?_ | fail)
  all_goals try (exfalso; simp only [dT, dF, lM] at *; omega)
  exact AW.retv rfl ⟨by rw [he]; rfl, rfl⟩
def bit8 (b : Bool) : UInt8 := if b then 1 else 0
def keyB (l : List Bool) : ByteArray := ⟨(l.map bit8).toArray⟩
theorem keyB_inj {a b : List Bool} (h : keyB a = keyB b) : a = b := by
 have h1 : (a.map bit8) = (b.map bit8) := by
  have := congrArg (fun x : ByteArray => x.data.toList) h
  simpa [keyB] using this
 exact List.map_inj_right (by intro x y; cases x <;> cases y <;> simp [bit8]) |>.1 h1
def kav (b : Bool) : AV := .int .u8 (if b then 1 else 0)
theorem ref_key (ba m : Nat) (a : List Bool) (ha : a.length = m) (hm : m ≤ 1000000) :
  Tri Tryz.prog 215 [.osl ba m m] [.row ba (a.map bav)] (D (.str (keyB a)) [.row ba (a.map bav)]) := by
 refine Tri.enter 23 Tryz.func215 rfl rfl rfl rfl fun Fr w0 => ?_
 repeat' (first | refine AW.re 0 1 ?_ | refine AW.go ?_ | fail)
 repeat' (first | (refine xS 1 2 ?_; refine AL.makeSlice (n := m) (e := 5) (c := .int .u8 0) (z := .int .u8 0) (bytes := 1) rfl rfl (by kernel_rfl) rfl (by omega) (by omega) rfl fun bk => ?_; refine xN 1 ?_) | refine AW.re 2 1 ?_ | refine AW.go ?_ | fail)
 refine AW.prune [0, 3, 4] (AW.loop (fun mz af h => ∃ (i : Nat), i ≤ m ∧ mz = m - i ∧ af = [(0, .osl ba m m), (3, .osl bk m m), (4, .int .i64 i)] ∧ h = [.row bk ((a.take i).map kav ++ List.replicate (m - i) (.int .u8 0)), .row ba (a.map bav)] ∧ True) m ⟨0, Nat.zero_le _, rfl, rfl, rfl, trivial⟩ ?_)
 rintro mz af h ⟨i, hi, rfl, rfl, rfl, he⟩
 refine AW.seq ?_
 by_cases hlt : i < m
 ·obtain ⟨x, hx⟩ := get_lt (show i < a.length by omega)
  have hx' : (a.map bav)[((i : Nat) : Int).toNat]? = some (bav x) := map_get hx
  have htk : a.take (i + 1) = a.take i ++ [x] := by rw [List.take_add_one, hx]; rfl
  have hl : ((a.take i).map kav).length = i := by rw [lM, List.length_take]; omega
  rw [show m - i = (m - (i + 1)) + 1 by omega, List.replicate_succ]
  have hst : ((i : Nat) : Int).toNat < ((a.take i).map kav ++ AV.int .u8 0 :: List.replicate (m - (i + 1)) (.int .u8 0)).length := by rw [lA, hl, List.length_cons]; omega
  repeat' (first | refine AW.re 3 4 ?_ | (refine xS 5 2 ?_; refine AL.d (AOp.index_osl rfl rfl (by omega) (by omega) (by kernel_rfl)) ?_; refine AL.d (AOp.load_cell 1 rfl rfl hx' rfl (by kernel_rfl)) ?_; refine AL.nil ?_) | refine AW.jj (fun hb => ?_) (fun hb => ?_) | refine AW.go ?_ | fail)
  all_goals try (exfalso; simp only [dT, dF, lM] at *; omega)
  ·obtain rfl : x = true := hb
   repeat' (first | (refine xS 6 2 ?_; refine AL.d (AOp.index_osl rfl rfl (by omega) (by omega) (by kernel_rfl)) ?_; refine AL.store_cell 0 rfl rfl rfl hst rfl rfl (by kernel_rfl) ?_; refine AL.nil ?_) | (refine xS 4 1 ?_; refine AL.d AOp.ad ?_; refine xN 1 ?_) | fail)
   refine AW.again_keep (m - (i + 1)) [0, 3, 4] (by omega) ⟨i + 1, hlt, rfl, rfl, ?_, trivial⟩
   show [Own.row bk (((a.take i).map kav ++ AV.int .u8 0 :: List.replicate (m - (i + 1)) (.int .u8 0)).set ((i : Nat) : Int).toNat (.int .u8 1)), .row ba (a.map bav)] = _
   rw [Int.toNat_natCast, set_mid _ _ _ _ _ hl, htk, List.map_append]
   simp [kav]
  ·obtain rfl : x = false := hb
   repeat' (first | (refine xS 4 1 ?_; refine AL.d AOp.ad ?_; refine xN 1 ?_) | fail)
   refine AW.again_keep (m - (i + 1)) [0, 3, 4] (by omega) ⟨i + 1, hlt, rfl, rfl, ?_, trivial⟩
   rw [htk, List.map_append]
   simp [kav]
 ·rw [show m - i = 0 by omega, List.replicate_zero, List.append_nil, List.take_of_length_le (by omega)]
  have hk : a.map kav = (a.map bit8).map fun q => AV.int .u8 (q.toNat : Int) := by
   rw [List.map_map]; refine List.map_congr_left fun b _ => ?_; cases b <;> rfl
  rw [hk]
  have hl2 : some (AV.osl bk m m) = some (.osl bk (a.map bit8).length m) := by rw [lM, ha]
  repeat' (first | refine AW.re 3 4 ?_ | refine AW.jj (fun hb => ?_) (fun hb => ?_) | refine AW.go ?_ | fail)
  all_goals try (exfalso; simp only [dT, dF, lM] at *; omega)
  repeat' (first | (refine xS 7 1 ?_; refine AL.d (AOp.conv_bytes 0 (l := a.map bit8) (c := m) (e := 5) hl2 rfl (by kernel_rfl) (by kernel_rfl) (by kernel_rfl)) ?_; refine xN 1 ?_) | fail)
  exact AW.ret_drop rfl (by simp) ⟨rfl, rfl⟩
theorem perm_push {α : Type} (nw n w t a b : α) (R N X : List α) : ([w, t] ++ (X ++ nw :: n :: a :: b :: (R ++ N))).Perm (X ++ n :: (w :: t :: a :: b :: (R ++ [nw]) ++ N)) := by
 classical
 rw [List.perm_iff_count]
 intro x
 simp only [List.count_cons, List.count_append, List.count_nil]
 omega
theorem perm_pop {α : Type} (nw n w t a b : α) (R N X : List α) : (X ++ n :: (w :: t :: a :: b :: (R ++ [nw]) ++ N)).Perm (X ++ nw :: n :: (w :: t :: a :: b :: R ++ N)) := by
 classical
 rw [List.perm_iff_count]
 intro x
 simp only [List.count_cons, List.count_append, List.count_nil]
 omega
theorem perm_4b {α : Type} (a b c d : α) (R : List α) : (a :: b :: c :: d :: R).Perm (b :: d :: c :: a :: R) := by
 classical
 rw [List.perm_iff_count]
 intro x
 simp only [List.count_cons]
 omega
theorem perm_2e {α : Type} (a b : α) (R : List α) : (a :: b :: R).Perm (R ++ [a, b]) := List.perm_append_comm (l₁ := [a, b])
def WS.push (s : WS) (o : Option Nat) (c : Nat) (tl : List AV) (t : TE) : WS := { s with to := o, tc := c, tt := tl, ts := s.ts ++ [t] }
theorem WS.push_ok {s : WS} (hs : s.Ok) {o : Option Nat} {c : Nat} {tl : List AV} {t : TE} (h1 : (tcells s.ts).length + 3 + tl.length = c * 3) (h2 : o = none → s.ts.length + 1 = 0 ∧ c = 0) (h3 : s.ts.length + 1 ≤ 10000) : (s.push o c tl t).Ok := by
 obtain ⟨n1, n2, t1, t2, t3, m1, m2, m3, v1, v2, v3, v4⟩ := hs
 refine ⟨n1, n2, ?_, fun h => ?_, ?_, m1, m2, m3, v1, v2, v3, v4⟩
 ·show (s.ts ++ [t]).length * 3 + tl.length = c * 3
  rw [tcells_len] at h1
  rw [lA, List.length_singleton]; omega
 ·show (s.ts ++ [t]).length = 0 ∧ c = 0
  rw [lA, List.length_singleton]; exact h2 h
 ·show (s.ts ++ [t]).length ≤ 10000
  rw [lA, List.length_singleton]; omega
theorem WS.push_box (s : WS) (o : Option Nat) (c : Nat) (tl : List AV) (t : TE) : (s.push o c tl t).box = .st [.int .i64 s.N, .int .i64 s.base, bfV o (s.ts.length + 1) c, bfV s.no s.ns.length s.nc, bfV s.vo s.vs.length s.vc, .bool s.long] := by
 unfold WS.box WS.push
 simp only [lA, List.length_singleton]
theorem wH_push (bw : Nat) (s : WS) (o : Option Nat) (c : Nat) (tl : List AV) (t : TE) : wH bw (s.push o c tl t) = .box bw (.st [.int .i64 s.N, .int .i64 s.base, bfV o (s.ts.length + 1) c, bfV s.no s.ns.length s.nc, bfV s.vo s.vs.length s.vc, .bool s.long]) :: bfO o (tcells s.ts ++ t.cells ++ tl) :: bfO s.no (s.ns.map AV.str ++ s.nt) :: bfO s.vo (s.vs.map iav ++ s.vt) :: (s.ts.map TE.row ++ [t.row]) := by
 unfold wH
 rw [WS.push_box]
 unfold WS.push
 simp only [tcells_app, List.map_append]
 rfl
def WS.pop (s : WS) (ts : List TE) (t : TE) : WS := { s with tt := t.cells ++ s.tt, ts := ts }
theorem WS.pop_ok {s : WS} {ts : List TE} {t : TE} (hs : s.Ok) (h : s.ts = ts ++ [t]) : (s.pop ts t).Ok := by
 obtain ⟨n1, n2, t1, t2, t3, m1, m2, m3, v1, v2, v3, v4⟩ := hs
 have hl : s.ts.length = ts.length + 1 := by rw [h, lA, List.length_singleton]
 refine ⟨n1, n2, ?_, fun e => ?_, ?_, m1, m2, m3, v1, v2, v3, v4⟩
 ·show ts.length * 3 + (t.cells ++ s.tt).length = s.tc * 3
  have : t.cells.length = 3 := rfl
  rw [lA]; omega
 ·have := t2 e; omega
 ·show ts.length ≤ 10000; omega
theorem hH_pop (bw : Nat) {s : WS} {ts : List TE} {t : TE} (h : s.ts = ts ++ [t]) (n : NT) (X : AH) : (X ++ n.bx :: (Own.box bw (.st [.int .i64 s.N, .int .i64 s.base, bfV s.to ts.length s.tc, bfV s.no s.ns.length s.nc, bfV s.vo s.vs.length s.vc, .bool s.long]) :: bfO s.to (tcells s.ts ++ s.tt) :: bfO s.no (s.ns.map AV.str ++ s.nt) :: bfO s.vo (s.vs.map iav ++ s.vt) :: (s.ts.map TE.row) ++ n.rest)).Perm (X ++ t.row :: hH bw (s.pop ts t) n) := by
 have := perm_pop t.row n.bx (Own.box bw (.st [.int .i64 s.N, .int .i64 s.base, bfV s.to ts.length s.tc, bfV s.no s.ns.length s.nc, bfV s.vo s.vs.length s.vc, .bool s.long])) (bfO s.to (tcells s.ts ++ s.tt)) (bfO s.no (s.ns.map AV.str ++ s.nt)) (bfO s.vo (s.vs.map iav ++ s.vt)) (ts.map TE.row) n.rest X
 have e : hH bw (s.pop ts t) n = n.bx :: (Own.box bw (.st [.int .i64 s.N, .int .i64 s.base, bfV s.to ts.length s.tc, bfV s.no s.ns.length s.nc, bfV s.vo s.vs.length s.vc, .bool s.long]) :: bfO s.to (tcells s.ts ++ s.tt) :: bfO s.no (s.ns.map AV.str ++ s.nt) :: bfO s.vo (s.vs.map iav ++ s.vt) :: ts.map TE.row ++ n.rest) := by
  unfold hH wH WS.pop WS.box
  simp only [h, tcells_app, List.append_assoc]
  rfl
 rw [e]
 rw [show s.ts.map TE.row = ts.map TE.row ++ [t.row] by rw [h, List.map_append]; rfl]
 exact this
theorem w_stage (bw : Nat) (K : NT → Prop) (φ : Nat → Bool) (n : NT) (s : WS) (names : List ByteArray) (now : TE) (L : Nat) (hL : L = s.N ^ names.length) (hbl : now.bits.length = L) (hL2 : L ≤ 4096) (hs : s.Ok) (hn : s.ns.length + names.length ≤ 100000) (ht : s.ts.length + 1 ≤ 10000) (hk : K n)
  (H : ∀ i, i < L → ∀ o c tl, HoldsAt bw K (s.push o c tl now) n names (tup s.N names.length i) (φ i)) :
  Tri Tryz.prog 196 [.ref bw 0, strs names, .ref n.b 0, now.av] (now.row :: hH bw s n)
   (fun x h => ∃ s' n' out, x = .ret (TE.av out) ∧ h = out.row :: now.row :: hH bw s' n' ∧ Same s s' ∧ n'.b = n.b ∧ n'.f = n.f ∧ K n' ∧ out.nm = now.nm ∧ out.ar = now.ar ∧ out.bits = (List.range L).map φ) := by
 have hMx : (some (AV.int .i64 (names.map AV.str).length)) = some (.int .i64 (names.length : Nat)) := by rw [lM]
 have hBx : (some (AV.int .i64 now.bits.length)) = some (.int .i64 (L : Nat)) := by rw [hbl]
 have hs0 := hs
 obtain ⟨n1, n2, t1, t2, t3, _⟩ := hs0
 have hcl := tcells_len s.ts
 have hr3 : ∀ y ∈ now.cells, y.size = 1 := by intro y hy; unfold TE.cells at hy; simp only [List.mem_cons, List.not_mem_nil, or_false] at hy; rcases hy with rfl | rfl | rfl <;> rfl
 have hnav : now.av = .st [.str now.nm, .int .i64 now.ar, .osl now.hb now.bits.length now.bits.length] := rfl
 refine Tri.enter 72 Tryz.func196 rfl rfl rfl rfl fun Fr w0 => ?_
 repeat' (first | (refine AW.r 0 ?_; refine AL.d (AOp.box_ro rfl rfl) ?_; refine AL.alloc_z (t := 193) zTb (by kernel_rfl) rfl rfl fun b8 => ?_; refine AL.nil ?_) | fail)
 refine AW.seq ?_
 refine AW.cut (fun af h => ∃ bo bb, af = [(0, .ref bw 0), (1, strs names), (2, .ref n.b 0), (7, .at now.av), (8, .ref b8 0), (9, .ref bb 0)] ∧ h = .box bb (.st [.str now.nm, .int .i64 now.ar, .osl bo L L]) :: .row bo (List.replicate L (.bool false)) :: .box b8 zTb :: now.row :: hH bw s n) ?_ ?_
 ·repeat' (first | fail)
  refine AW.explore [] [7, 8, 9, 10] rfl (by kernel_rfl) (by kernel_rfl) (by kernel_rfl) (by kernel_rfl) ?_
  first | refine AQE.op rfl AOp.fa rfl rfl ?_ | refine AQE.op rfl (AOp.fr 0) rfl rfl ?_
  refine AQE.op rfl (AOp.la) rfl rfl ?_
  first | refine AQE.op rfl AOp.fa rfl rfl ?_ | refine AQE.op rfl (AOp.fr 1) rfl rfl ?_
  refine AQE.op rfl (AOp.la) rfl rfl ?_
  first | refine AQE.op rfl AOp.fa rfl rfl ?_ | refine AQE.op rfl (AOp.fr 2) rfl rfl ?_
  refine AQE.op rfl (AOp.la) rfl rfl ?_
  refine AQE.op rfl (AOp.ln) rfl rfl ?_
  refine AQE.hole rfl rfl ?_
  refine AQE.hole rfl rfl ?_
  refine AQE.hole rfl rfl ?_
  refine AQE.hole rfl rfl ?_
  refine AQE.nil ?_
  repeat' (first | refine AX.two (n := 3) 7 9 rfl ?_ ?_ | refine AX.one (n := 2) 7 rfl ?_ | refine AX.two (n := 2) 8 9 rfl ?_ ?_ | refine AX.one (n := 1) 8 rfl ?_ | refine AX.one (n := 1) 9 rfl ?_ | refine AX.one (n := 0) 10 rfl ?_ | (refine AXS.new (i := 7) rfl rfl rfl (AOp.makeSlice (n := L) (e := 4) (c := .bool false) (z := .bool false) (bytes := 1) hBx hBx (by kernel_rfl) rfl (by omega) (by omega)) (fun bo => ?_); dsimp only [sA, sB, sC, sD]) | (refine AXS.det (i := 8) rfl rfl rfl (AOp.build (pl := [(0, 1), (1, 1), (2, 1)]) (z := zTb) (by kernel_rfl) rfl rfl rfl) ?_; dsimp only [sA, sB, sC, sD]) | (refine AXS.new (i := 9) rfl rfl rfl (AOp.alloc (t := 193) (z := zTb) (by kernel_rfl) rfl) (fun bb => ?_); dsimp only [sA, sB, sC, sD]) | (refine AXS.at (q := 10) rfl rfl ?_; refine AXO.sl 0 (fun _ => ?_); dsimp only [sA, sB, sC, sD]) | (refine AXS.at (q := 10) rfl rfl ?_; refine AXO.sl 1 (fun _ => ?_); dsimp only [sA, sB, sC, sD]) | fail)
  all_goals refine AX.done_keep [0,1,2,7,8,9] ?_
  all_goals first
   | exact AW.meet [0, 1, 2, 7, 8, 9] ⟨bo, bb, rfl, rfl⟩
   | exact AW.perm (.swap _ _ _) (AW.meet [0, 1, 2, 7, 8, 9] ⟨bo, bb, rfl, rfl⟩)
 rintro _ _ ⟨bo, bb, rfl, rfl⟩
 repeat' (first | (refine xS 2 2 ?_; refine AL.d (AOp.fr 2) ?_; refine AL.d (AOp.ll 5) ?_; refine AL.d (AOp.len_val (by kernel_rfl) rfl) ?_; refine xN 1 ?_) | refine AW.go ?_ | fail)
 repeat' (first | fail)
 refine AW.explore [false, false, false, false, false, true, true] [4, 7, 10] rfl (by kernel_rfl) (by kernel_rfl) (by kernel_rfl) (by kernel_rfl) ?_
 refine AQE.ev rfl rfl rfl rfl ?_
 refine AQE.ev rfl rfl rfl rfl ?_
 refine AQE.ev rfl rfl rfl rfl ?_
 first | refine AQE.op rfl AOp.fa rfl rfl ?_ | refine AQE.op rfl (AOp.fr 2) rfl rfl ?_
 refine AQE.hole rfl rfl ?_
 refine AQE.op rfl (AOp.la) rfl rfl ?_
 refine AQE.op rfl (AOp.lit (e := 193) (sz := 3) (by kernel_rfl) rfl rfl rfl (P_one rfl) (by decide)) rfl rfl ?_
 refine AQE.hole rfl rfl ?_
 refine AQE.ev rfl rfl rfl rfl ?_
 first | refine AQE.op rfl AOp.fa rfl rfl ?_ | refine AQE.op rfl (AOp.fr 2) rfl rfl ?_
 refine AQE.hole rfl rfl ?_
 refine AQE.nil ?_
 repeat' (first | refine AX.one (n := 2) 4 rfl ?_ | refine AX.one (n := 1) 7 rfl ?_ | refine AX.one (n := 0) 10 rfl ?_ | (refine AXS.det (i := 4) rfl rfl rfl (AOp.ll 0) ?_; dsimp only [sA, sB, sC, sD]) | (refine AXS.step (i := 7) rfl rfl rfl (AOp.append_bf 1 3 (o := s.to) (n := s.ts.length) (c := s.tc) (us := tcells s.ts) (tl := s.tt) (ys := now.cells) (m := 1) (e := 193) (bytes := 48) rfl rfl (by omega) (by omega) t2 (SrcC.one (fs := now.cells) rfl hr3) rfl hr3 rfl (by omega) (by kernel_rfl) (by kernel_rfl) (by omega) (by omega)) ?_ (by rintro _ _ ⟨_, _, _, e, _⟩; cases e); rintro _ _ ⟨o, c, tl, e, rfl, q1, q2, q3⟩; injection e with e; subst e; dsimp only [sA, sB, sC, sD]) | (refine AXS.at (q := 10) rfl rfl ?_; refine AXO.sl 0 (fun _ => ?_); dsimp only [sA, sB, sC, sD]) | fail)
 all_goals refine AX.done_keep [0,1,2,8,9,10] ?_
 refine AW.perm (perm_push now.row n.bx _ _ (bfO s.no (s.ns.map AV.str ++ s.nt)) (bfO s.vo (s.vs.map iav ++ s.vt)) (s.ts.map TE.row) n.rest [_, _, _]) ?_
 have ok1 := WS.push_ok (t := now) (o := o) (c := c) (tl := tl) hs (by have : now.cells.length = 3 := rfl; omega) q2 ht
 refine AW.frame_eq rfl (show _ = .box bb (.st [.str now.nm, .int .i64 now.ar, .osl bo L L]) :: .row bo (List.replicate L (.bool false)) :: .box b8 zTb :: hH bw (s.push o c tl now) n from by unfold hH; rw [wH_push]; rfl) ?_
 have hH1 : ∀ i, i < L → HoldsAt bw K (s.push o c tl now) n names (tup s.N names.length i) (φ i) := fun i hi => H i hi o c tl
 have hNp : (s.push o c tl now).N = s.N := rfl
 have hnp : (s.push o c tl now).ns = s.ns := rfl
 have hbp : (s.push o c tl now).base = s.base := rfl
 have htp : (s.push o c tl now).ts = s.ts ++ [now] := rfl
 have hvp : (s.push o c tl now).vs = s.vs := rfl
 generalize s.push o c tl now = s1 at *
 repeat' (first | (refine xS 4 2 ?_; refine AL.makeSlice (n := names.length) (e := 3) (c := .int .i64 0) (z := .int .i64 0) (bytes := 8) hMx hMx (by kernel_rfl) rfl (by omega) (by omega) rfl fun bt => ?_; refine xN 1 ?_) | refine AW.re 5 1 ?_ | refine AW.go ?_ | fail)
 refine AW.perm (perm_4b _ _ _ _ _) ?_
 have hL0 : 0 < L := by rw [hL]; exact Nat.pow_pos n1
 refine AW.prune [0, 1, 2, 8, 9, 10, 11, 12] (AW.loop (fun mz af h => ∃ (i : Nat) (s' : WS) (n' : NT), i ≤ L ∧ mz = L - i ∧ af = [(0, .ref bw 0), (1, strs names), (2, .ref n.b 0), (8, .ref b8 0), (9, .ref bb 0), (10, .int .i64 s.ts.length), (11, .osl bt names.length names.length), (12, .int .i64 i)] ∧
  h = .box bb (.st [.str now.nm, .int .i64 now.ar, .osl bo L L]) :: .box b8 zTb :: .row bo (((List.range i).map φ ++ List.replicate (L - i) false).map bav) :: .row bt ((tup s.N names.length (i % L)).map iav) :: hH bw s' n' ∧ Same s1 s' ∧ n'.b = n.b ∧ n'.f = n.f ∧ K n') L ⟨0, s1, n, Nat.zero_le _, rfl, rfl, by rw [Nat.zero_mod, tup_zero, List.map_replicate]; simp only [List.range_zero, List.map_nil, List.nil_append, List.map_replicate, Nat.sub_zero]; rfl, Same.refl ok1, rfl, rfl, hk⟩ ?_)
 rintro mz af h ⟨i, s2, n2, hi, rfl, rfl, rfl, sm, nb, nf, hk1⟩
 refine AW.seq ?_
 by_cases hlt : i < L
 ·have him : i % L = i := Nat.mod_eq_of_lt hlt
  rw [him]
  have htl := tup_len s.N names.length i
  have hol : ((List.range i).map φ).length = i := by simp
  have hW := w_With_own bw K (φ i) n2 s2 names (tup s.N names.length i) bt names.length [] sm.ok htl (by rw [sm.ns, hnp]; exact hn) (fun x hx => by rw [sm.N, hNp]; exact tup_mem (by omega) _ _ x hx)
   (fun s' h1 h2 h3 h4 h5 h6 => hH1 i hlt s' n2 h1 (h2.trans sm.N) (h3.trans sm.base) (h4.trans sm.ts) (by rw [h5, sm.ns]) (by rw [h6, sm.vs]) nb nf hk1)
  rw [htl, List.append_nil, nb] at hW
  have hc := Tri.ahead hW [.row bo (((List.range i).map φ ++ List.replicate (L - i) false).map bav)]
  have hrow : ((List.range i).map φ ++ List.replicate (L - i) false).map bav = ((List.range i).map φ).map bav ++ bav false :: List.replicate (L - (i + 1)) (bav false) := by
   rw [show L - i = (L - (i + 1)) + 1 by omega, List.replicate_succ]; simp
  rw [hrow] at hc ⊢
  have hl2 : (((List.range i).map φ).map bav).length = i := by simp
  have hsl : ((i : Nat) : Int).toNat < (((List.range i).map φ).map bav ++ bav false :: List.replicate (L - (i + 1)) (bav false)).length := by rw [lA, hl2, List.length_cons]; omega
  repeat' (first | (refine xS 6 1 ?_; refine AL.d (AOp.fr 2) ?_; refine AL.d (AOp.ll 0) ?_; refine xN 2 ?_) | refine AW.jj (fun hb => ?_) (fun hb => ?_) | refine AW.go ?_ | fail)
  all_goals try (exfalso; simp only [dT, dF, lM] at *; omega)
  refine AW.perm (perm_2e _ _ _) ?_
  repeat' (first | fail)
  refine AW.exploreA [7, 9] rfl (by kernel_rfl) (by kernel_rfl) (by kernel_rfl) (by kernel_rfl) ?_
  first | refine AQE.op rfl AOp.fa rfl rfl ?_ | refine AQE.op rfl (AOp.fr 2) rfl rfl ?_
  refine AQE.op rfl (AOp.ll 0) rfl rfl ?_
  refine AQE.ev rfl rfl rfl rfl ?_
  refine AQE.ev rfl rfl rfl rfl ?_
  refine AQE.ev rfl rfl rfl rfl ?_
  refine AQE.ev rfl rfl rfl rfl ?_
  refine AQE.ev rfl rfl rfl rfl ?_
  refine AQE.hole rfl rfl ?_
  refine AQE.op rfl (AOp.index_osl rfl rfl (by omega) (by omega) (by kernel_rfl)) rfl rfl ?_
  refine AQE.hole rfl rfl ?_
  refine AQE.nil ?_
  repeat' (first | refine AX.one (n := 1) 7 rfl ?_ | refine AX.one (n := 0) 9 rfl ?_ | (refine AXS.at (q := 7) rfl rfl ?_; refine AXO.callQ rfl rfl hc rfl ?_ ?_; rotate_left; rintro _ _ ⟨_, ⟨e, _⟩, _⟩; cases e; rintro _ _ ⟨_, ⟨e, s3, n3, rfl, sm3, nb3, nf3, hk3⟩, rfl⟩; injection e with e; subst e; dsimp only [sA, sB, sC, sD]) | (refine AXS.at (q := 9) rfl rfl ?_; refine AXO.store_cell 0 rfl rfl rfl hsl rfl rfl (by kernel_rfl) (fun _ => ?_); dsimp only [sA, sB, sC, sD]) | fail)
  all_goals refine AX.done_keep [0,1,2,8,9,10,11,12] ?_
  have hset : (((List.range i).map φ).map bav ++ bav false :: List.replicate (L - (i + 1)) (bav false)).set ((i : Nat) : Int).toNat (.bool (φ i)) = ((List.range (i + 1)).map φ ++ List.replicate (L - (i + 1)) false).map bav := by
   rw [Int.toNat_natCast, set_mid _ _ _ _ _ hl2, List.range_succ]; simp [bav]
  refine AW.frame_eq rfl (show _ = (.row bo ((((List.range i).map φ).map bav ++ bav false :: List.replicate (L - (i + 1)) (bav false)).set ((i : Nat) : Int).toNat (.bool (φ i))) :: .row bt ((tup s.N names.length i).map iav) :: hH bw s3 n3) ++ [.box bb (.st [.str now.nm, .int .i64 now.ar, .osl bo L L]), .box b8 zTb] from rfl) ?_
  refine AW.perm (perm_2e _ _ _).symm ?_
  rw [hset]
  have hN3 : s3.N = s.N := by rw [sm3.N, sm.N, hNp]
  have hX : Tri Tryz.prog 193 [.osl bt names.length names.length, .int .i64 s3.N] ([.box bb (.st [.str now.nm, .int .i64 now.ar, .osl bo L L]), .box b8 zTb, .row bo (((List.range (i + 1)).map φ ++ List.replicate (L - (i + 1)) false).map bav)] ++ ([.row bt ((tup s.N names.length i).map iav)] ++ hH bw s3 n3)) (D (.bool (decide (i + 1 < L))) ([.box bb (.st [.str now.nm, .int .i64 now.ar, .osl bo L L]), .box b8 zTb, .row bo (((List.range (i + 1)).map φ ++ List.replicate (L - (i + 1)) false).map bav)] ++ ([.row bt ((tup s.N names.length ((i + 1) % L)).map iav)] ++ hH bw s3 n3))) := by
   have := (tup_next bt s.N names.length i ⟨hs.n1, hs.n2⟩ (by omega) (by rw [← hL]; exact hlt)).aroundD [.box bb (.st [.str now.nm, .int .i64 now.ar, .osl bo L L]), .box b8 zTb, .row bo (((List.range (i + 1)).map φ ++ List.replicate (L - (i + 1)) false).map bav)] (hH bw s3 n3)
   rw [← hL] at this
   rw [hN3]; exact this
  repeat' (first | (refine xS 9 3 ?_; refine AL.d (AOp.fr 0) ?_; refine AL.d (AOp.ll 5) ?_; refine AL.d (AOp.call rfl rfl hX) ?_; refine AL.nil ?_) | (refine xS 7 1 ?_; refine AL.d AOp.ad ?_; refine xN 1 ?_) | fail)
  exact AW.again_keep (L - (i + 1)) [0, 1, 2, 8, 9, 10, 11, 12] (by omega) ⟨i + 1, s3, n3, hlt, rfl, rfl, rfl, sm.trans sm3, nb3.trans nb, nf3.trans nf, hk3⟩
 ·obtain rfl : i = L := by omega
  rw [Nat.sub_self, List.replicate_zero, List.append_nil]
  have hts : s2.ts = s.ts ++ [now] := by rw [sm.ts, htp]
  have hc2 : s.ts.length ≤ s2.tc := by
   have := sm.ok.t1; rw [hts, lA, List.length_singleton] at this; omega
  repeat' (first | (refine xS 6 1 ?_; refine AL.d (AOp.fr 2) ?_; refine AL.d (AOp.ll 0) ?_; refine xN 2 ?_) | refine AW.jj (fun hb => ?_) (fun hb => ?_) | refine AW.go ?_ | fail)
  all_goals try (exfalso; simp only [dT, dF, lM] at *; omega)
  repeat' (first | (refine xS 10 3 ?_; refine AL.d (AOp.fr 2) ?_; refine AL.d (AOp.ll 5) ?_; refine AL.es 1 ?_; refine AL.d (AOp.cut_bf (sz := 3) (k := s.ts.length) (by kernel_rfl) rfl (bndIs.some rfl rfl) hc2) ?_; refine AL.es 1 ?_; refine AL.d (AOp.fr 2) ?_; refine AL.sl 5 ?_; refine AL.nil ?_) | refine AW.go ?_ | fail)
  refine AW.perm (hH_pop bw hts n2 [_, _, _, _]) ?_
  repeat' (first | (refine AW.r 11 ?_; refine AL.d (AOp.lw 0) ?_; refine AL.sl 1 ?_; refine AL.nil ?_) | fail)
  refine AW.retc (vs := [.st [.str now.nm, .int .i64 now.ar, .osl bo i i]]) (.cell 1 rfl rfl (by kernel_rfl) .nil) (ah' := .row bo (((List.range i).map φ).map bav) :: now.row :: hH bw (s2.pop s.ts now) n2) (.cons _ (.cons _ (.cons_cons _ (.cons _ (List.Sublist.refl _))))) ⟨s2.pop s.ts now, n2, ⟨now.nm, now.ar, bo, (List.range i).map φ⟩, ?_, rfl, ?_, nb, nf, hk1, rfl, rfl, rfl⟩
  ·show _ = AEnd.ret (AV.st [.str now.nm, .int .i64 now.ar, .osl bo ((List.range i).map φ).length ((List.range i).map φ).length])
   rw [lM, List.length_range]; rfl
  ·exact ⟨sm.N.trans hNp, sm.base.trans hbp, rfl, sm.ns.trans hnp, sm.vs.trans hvp, WS.pop_ok sm.ok hts⟩
theorem frV_iff (vars : List ByteArray) : ∀ (l out : List ByteArray) (x : ByteArray), x ∈ frV vars l out ↔ (x ∈ l ∧ has vars x = false) ∨ x ∈ out
 | [], out, x => by rw [frV]; simp
 | v :: l, out, x => by
  rw [frV, frV_iff vars l]
  cases hv : has vars v with
  | true =>
   simp only [cond_true, List.mem_cons]
   constructor
   ·rintro (⟨h1, h2⟩ | h)
    ·exact .inl ⟨.inr h1, h2⟩
    ·exact .inr h
   ·rintro (⟨rfl | h1, h2⟩ | h)
    ·rw [hv] at h2; cases h2
    ·exact .inl ⟨h1, h2⟩
    ·exact .inr h
  | false =>
   simp only [cond_false, List.mem_cons, risP_mem]
   constructor
   ·rintro (⟨h1, h2⟩ | rfl | h)
    ·exact .inl ⟨.inr h1, h2⟩
    ·exact .inl ⟨.inl rfl, hv⟩
    ·exact .inr h
   ·rintro (⟨rfl | h1, h2⟩ | h)
    ·exact .inr (.inl rfl)
    ·exact .inl ⟨h1, h2⟩
    ·exact .inr (.inr h)
theorem frA_iff : ∀ (l out : List ByteArray) (x : ByteArray), x ∈ frA l out ↔ x ∈ l ∨ x ∈ out
 | [], out, x => by rw [frA]; simp
 | v :: l, out, x => by
  rw [frA, frA_iff l, risP_mem, List.mem_cons]
  constructor
  ·rintro (h | rfl | h) <;> simp [*]
  ·rintro ((rfl | h) | h) <;> simp [*]
mutual
theorem frF_fv : ∀ (f : GFml) (x : ByteArray), x ∈ frF f ↔ fvB x f = true
 | ⟨k, ar, nm, vars, args, kids⟩, x => by
  rw [frF, fvB, frA_iff, frLs_fv vars kids, Bool.or_eq_true, bA, has_mem]
  simp [and_comm]
theorem frLs_fv (vars : List ByteArray) : ∀ (l : List GFml) (out : List ByteArray) (x : ByteArray), x ∈ frLs vars l out ↔ (fvBL x l = true ∧ has vars x = false) ∨ x ∈ out
 | [], out, x => by rw [frLs, fvBL]; simp
 | y :: l, out, x => by
  rw [frLs, frLs_fv vars l, frV_iff, frF_fv y, fvBL, Bool.or_eq_true]
  constructor
  ·rintro (⟨h1, h2⟩ | ⟨h1, h2⟩ | h)
   ·exact .inl ⟨.inr h1, h2⟩
   ·exact .inl ⟨.inl h1, h2⟩
   ·exact .inr h
  ·rintro (⟨h1 | h1, h2⟩ | h)
   ·exact .inr (.inl ⟨h1, h2⟩)
   ·exact .inl ⟨h1, h2⟩
   ·exact .inr (.inr h)
end
mutual
theorem ocF_mem : ∀ (f : GFml) (bd : List ByteArray) (out : List GSym) (y : GSym), y ∈ ocF f bd out ↔ y ∈ out ∨ y ∈ ocF f bd []
 | ⟨k, ar, nm, vars, args, kids⟩, bd, out, y => by
  rw [ocF, ocF]
  cases hc : (k == 0 && !(bd.any fun x => decide (x = nm))) with
  | true => simp
  | false => simp only [cond_false]; exact ocFs_mem kids _ out y
theorem ocFs_mem : ∀ (l : List GFml) (bd : List ByteArray) (out : List GSym) (y : GSym), y ∈ ocFs l bd out ↔ y ∈ out ∨ y ∈ ocFs l bd []
 | [], bd, out, y => by rw [ocFs, ocFs]; simp
 | x :: l, bd, out, y => by
  rw [ocFs, ocFs, ocFs_mem l bd (ocF x bd out), ocFs_mem l bd (ocF x bd []), ocF_mem x bd out, or_assoc]
end
mutual
theorem ocs_oc (s : ByteArray) : ∀ (f : GFml) (bd : List ByteArray) (out : List GSym), ocs s f = true → s ∉ bd → ∃ y ∈ ocF f bd out, y.Name = s
 | ⟨k, ar, nm, vars, args, kids⟩, bd, out, h, hb => by
  rw [ocs] at h
  rw [ocF]
  by_cases h0 : k = 0
  ·subst h0
   simp only [beq_self_eq_true, cond_true, dT] at h
   subst h
   have : (bd.any fun x => decide (x = nm)) = false := by
    rw [List.any_eq_false]; intro x hx; simp; intro e; subst e; exact hb hx
   rw [this]
   exact ⟨⟨nm, args.length⟩, by simp, rfl⟩
  ·have e0 : (k == 0) = false := by simpa using h0
   rw [e0] at h ⊢
   simp only [cond_false, Bool.false_and] at h ⊢
   cases hbn : bindsB ⟨k, ar, nm, vars, args, kids⟩ with
   | false => rw [hbn] at h; simp only [Bool.false_and, cond_false] at h ⊢; exact ocs_ocL s kids bd out h hb
   | true =>
    rw [hbn] at h
    by_cases e : nm = s
    ·simp [e] at h
    ·simp only [e, decide_false, Bool.and_false, cond_false, cond_true] at h ⊢
     exact ocs_ocL s kids _ out h (by simp [hb]; exact fun x => e x.symm)
theorem ocs_ocL (s : ByteArray) : ∀ (l : List GFml) (bd : List ByteArray) (out : List GSym), ocsL s l = true → s ∉ bd → ∃ y ∈ ocFs l bd out, y.Name = s
 | [], _, _, h, _ => by cases h
 | x :: l, bd, out, h, hb => by
  rw [ocsL, Bool.or_eq_true] at h
  rw [ocFs]
  rcases h with h | h
  ·obtain ⟨y, hy, e⟩ := ocs_oc s x bd out h hb
   exact ⟨y, (ocFs_mem l bd _ y).2 (.inl hy), e⟩
  ·exact ocs_ocL s l bd _ h hb
end
mutual
def smF (N : Nat) : GFml → Bool
 | ⟨k, ar, nm, vars, args, kids⟩ => !((k == 8 || k == 9) && decide (4096 < N ^ vars.length)) && !(k == 10 && decide (4096 < N ^ (vars.length / 2))) && !(k == 11 && decide (16 < N ^ ar.toNat)) && smFs N kids
def smFs (N : Nat) : List GFml → Bool
 | [] => true
 | x :: l => smF N x && smFs N l
end
theorem arAt_snoc2 (s : ByteArray) (b : List GSym) (y : GSym) : arAt s (b ++ [y]) (b ++ [y]).length = if y.Name = s then some y.Arity else arAt s b b.length := by
 rw [lA, List.length_singleton, arAt, List.getElem?_append_right (Nat.le_refl _), Nat.sub_self]
 simp only [List.getElem?_cons_zero]
 split
 ·rfl
 ·have : ∀ j, j ≤ b.length → arAt s (b ++ [y]) j = arAt s b j := by
   intro j
   induction j with
   | zero => intro _; rfl
   | succ j ih => intro hj; rw [arAt, arAt, List.getElem?_append_left (by omega), ih (by omega)]
  exact this _ (Nat.le_refl _)
theorem arAt_none {s : ByteArray} {b : List GSym} (h : arAt s b b.length = none) : s ∉ b.map GSym.Name := by
 have key : ∀ j, j ≤ b.length → arAt s b j = none → ∀ i, i < j → ∀ y, b[i]? = some y → y.Name ≠ s := by
  intro j
  induction j with
  | zero => intro _ _ i hi; omega
  | succ j ih =>
   intro hj hn i hi y hy
   rw [arAt] at hn
   obtain ⟨z, hz⟩ := get_lt (show j < b.length by omega)
   rw [hz] at hn
   simp only at hn
   split at hn
   ·cases hn
   ·rename_i hne
    by_cases e : i = j
    ·subst e; rw [hz] at hy; rw [← Option.some.inj hy]; exact hne
    ·exact ih (by omega) hn i (by omega) y hy
 intro hm
 obtain ⟨y, hy, e⟩ := List.mem_map.1 hm
 obtain ⟨i, hi, hg⟩ := List.getElem_of_mem hy
 exact key _ (Nat.le_refl _) h i hi y (by rw [List.getElem?_eq_getElem hi, hg]) e
structure LB_ (N : Nat) (L : LT) (b : List GSym) (P : GSym → Prop) : Prop where
 bound : ∀ s m, arAt s b b.length = some m → 0 ≤ m ∧ lkT L s = some (N ^ m.toNat) ∧ N ^ m.toNat ≤ 4096
 free : ∀ s, arAt s b b.length = none → ∀ y, P y → y.Name = s → ∀ c, lkT L s = some c → c = N ^ y.Arity.toNat ∧ c ≤ 4096
theorem LB_.push {N : Nat} {L : LT} {b : List GSym} {P : GSym → Prop} (h : LB_ N L b P) (nm : ByteArray) (m : Nat) (hm : N ^ m ≤ 4096) : LB_ N (L ++ [(nm, N ^ m)]) (b ++ [⟨nm, m⟩]) P := by
 refine ⟨fun s k hk => ?_, fun s hs y hy e c hc => ?_⟩
 ·rw [arAt_snoc2] at hk
  rw [lkT_snoc]
  by_cases e : nm = s
  ·simp only [e, if_true] at hk ⊢
   obtain rfl := Option.some.inj hk
   exact ⟨by omega, by simp, by simpa using hm⟩
  ·simp only [e, if_false] at hk ⊢
   exact h.bound s k hk
 ·rw [arAt_snoc2] at hs
  rw [lkT_snoc] at hc
  by_cases e' : nm = s
  ·simp [e'] at hs
  ·simp only [e', if_false] at hs hc
   exact h.free s hs y hy e c hc
mutual
theorem okF_of (N : Nat) : ∀ (f : GFml) (b : List GSym) (L : LT) (P : GSym → Prop), shsF f = true → arF f b = true → smF N f = true → LB_ N L b P → (∀ y ∈ ocF f (b.map GSym.Name) [], P y) → okF N f L
 | ⟨k, ar, nm, vars, args, kids⟩, b, L, P, hs, ha, hf, hL, hP => by
  rw [shsF, bA] at hs
  rw [arF] at ha
  rw [smF] at hf
  simp only [bA, Bool.not_eq_true', Bool.and_eq_false_iff, Bool.or_eq_false_iff, beq_eq_false_iff_ne, dF, Nat.not_lt] at hf
  obtain ⟨⟨⟨f1, f2⟩, f3⟩, f4⟩ := hf
  rw [okF]
  refine ⟨fun h0 c hc => ?_, fun h8 => ?_, fun h10 => ?_, fun h11 => ?_, fun h0 => ?_⟩
  ·subst h0
   simp only [beq_self_eq_true, cond_true] at ha
   cases hat : arAt nm b b.length with
   | some m =>
    rw [hat] at ha
    simp only [arR, beq_iff_eq] at ha
    obtain ⟨m0, m1, m2⟩ := hL.bound nm m hat
    rw [m1] at hc
    obtain rfl := Option.some.inj hc
    rw [show args.length = m.toNat by omega]
    exact ⟨rfl, m2⟩
   | none =>
    have hn := arAt_none hat
    have hy : (⟨nm, args.length⟩ : GSym) ∈ ocF ⟨0, ar, nm, vars, args, kids⟩ (b.map GSym.Name) [] := by
     rw [ocF]
     have : ((b.map GSym.Name).any fun x => decide (x = nm)) = false := by
      rw [List.any_eq_false]; intro x hx; simp; intro e; subst e; exact hn hx
     rw [this]; simp
    have := hL.free nm hat _ (hP _ hy) rfl c hc
    simpa using this
  ·rcases f1 with f1 | f1
   ·omega
   ·exact f1
  ·rcases f2 with f2 | f2
   ·exact (f2 h10).elim
   ·exact f2
  ·rcases f3 with f3 | f3
   ·exact (f3 h11).elim
   ·exact f3
  ·have e0 : (k == 0) = false := by simpa using h0
   rw [e0] at ha
   simp only [cond_false] at ha
   rw [ocF, e0] at hP
   simp only [Bool.false_and, cond_false] at hP
   by_cases h8 : k = 8 ∨ k = 9
   ·have hb : bindsB ⟨k, ar, nm, vars, args, kids⟩ = true := by rcases h8 with rfl | rfl <;> rfl
    have hn : bindsN ⟨k, ar, nm, vars, args, kids⟩ = vars.length := by unfold bindsN; rw [if_pos h8]
    rw [hb] at ha hP
    rw [hn] at ha
    rw [if_pos h8]
    refine okFL_of N kids _ _ P hs.1 ha f4 (hL.push nm vars.length ?_) (by simpa using hP)
    rcases f1 with f1 | f1
    ·omega
    ·exact f1
   ·rw [if_neg h8]
    by_cases h11 : k = 11
    ·have hb : bindsB ⟨k, ar, nm, vars, args, kids⟩ = true := by subst h11; rfl
     have h0a := (by have := hs.2; simp only [shapedP, shp2, bA, dT] at this; exact this.1.2.1.1.2 : (0 : Int) ≤ ar)
     have hn : bindsN ⟨k, ar, nm, vars, args, kids⟩ = (ar.toNat : Nat) := by unfold bindsN; rw [if_neg h8, if_pos h11]; show ar = _; omega
     rw [hb] at ha hP
     rw [hn] at ha
     rw [if_pos h11]
     refine okFL_of N kids _ _ P hs.1 ha f4 (hL.push nm ar.toNat ?_) (by simpa using hP)
     rcases f3 with f3 | f3
     ·exact (f3 h11).elim
     ·omega
    ·have hb : bindsB ⟨k, ar, nm, vars, args, kids⟩ = false := by simp only [bindsB]; simp; omega
     rw [hb] at ha hP
     rw [if_neg h11]
     exact okFL_of N kids b L P hs.1 ha f4 hL hP
theorem okFL_of (N : Nat) : ∀ (l : List GFml) (b : List GSym) (L : LT) (P : GSym → Prop), shsFs l = true → arFs l b = true → smFs N l = true → LB_ N L b P → (∀ y ∈ ocFs l (b.map GSym.Name) [], P y) → okFL N l L
 | [], _, _, _, _, _, _, _, _ => by rw [okFL]; trivial
 | x :: l, b, L, P, hs, ha, hf, hL, hP => by
  rw [shsFs, bA] at hs
  rw [arFs, bA] at ha
  rw [smFs, bA] at hf
  rw [okFL]
  rw [ocFs] at hP
  exact ⟨okF_of N x b L P hs.1 ha.1 hf.1 hL fun y hy => hP y ((ocFs_mem l _ _ y).2 (.inl hy)), okFL_of N l b L P hs.2 ha.2 hf.2 hL fun y hy => hP y ((ocFs_mem l _ _ y).2 (.inr hy))⟩
end
def ordG : List GSym → List ByteArray → List ByteArray
 | [], o => o
 | a :: l, o => ordG l (risP o a.Name)
theorem ordG_len : ∀ (l : List GSym) (o : List ByteArray), (ordG l o).length ≤ o.length + l.length
 | [], o => by simp [ordG]
 | a :: l, o => by
  have h1 := ordG_len l (risP o a.Name)
  have h2 := risP_len o a.Name
  rw [ordG, List.length_cons]; omega
theorem ordG_mem : ∀ (l : List GSym) (o : List ByteArray) (x : ByteArray), x ∈ ordG l o ↔ x ∈ o ∨ ∃ a ∈ l, a.Name = x
 | [], o, x => by simp [ordG]
 | a :: l, o, x => by
  rw [ordG, ordG_mem l, risP_mem]
  constructor
  ·rintro ((rfl | h) | ⟨b, hb, h⟩)
   ·exact .inr ⟨a, by simp, rfl⟩
   ·exact .inl h
   ·exact .inr ⟨b, by simp [hb], h⟩
  ·rintro (h | ⟨b, hb, h⟩)
   ·exact .inl (.inr h)
   ·rcases List.mem_cons.1 hb with rfl | hb
    ·exact .inl (.inl h.symm)
    ·exact .inr ⟨b, hb, h⟩
def fsym (l : List GSym) (nm : ByteArray) : List GSym := (l.find? fun y => decide (y.Name = nm)).toList
def symL (l : List GSym) : List GSym := (ordG l []).flatMap (fsym l)
theorem fsym_len (l : List GSym) (nm : ByteArray) : (fsym l nm).length ≤ 1 := by
 unfold fsym; cases l.find? _ <;> simp
theorem symL_len (l : List GSym) : (symL l).length ≤ l.length := by
 have h := ordG_len l []
 have key : ∀ o : List ByteArray, (o.flatMap (fsym l)).length ≤ o.length := by
  intro o
  induction o with
  | nil => simp
  | cons a o ih => have := fsym_len l a; rw [List.flatMap_cons, lA, List.length_cons]; omega
 have := key (ordG l [])
 unfold symL; simp at h; omega
theorem symL_sub {l : List GSym} {x : GSym} (h : x ∈ symL l) : x ∈ l := by
 obtain ⟨nm, _, hx⟩ := List.mem_flatMap.1 h
 unfold fsym at hx
 rw [Option.mem_toList] at hx
 exact List.mem_of_find?_eq_some hx
theorem symL_name {l : List GSym} {x : GSym} (h : x ∈ l) : ∃ y ∈ symL l, y.Name = x.Name := by
 have hm : x.Name ∈ ordG l [] := (ordG_mem l [] x.Name).2 (.inr ⟨x, h, rfl⟩)
 cases hf : l.find? fun y => decide (y.Name = x.Name) with
 | none => have := List.find?_eq_none.1 hf x h; simp at this
 | some y =>
  refine ⟨y, List.mem_flatMap.2 ⟨x.Name, hm, ?_⟩, ?_⟩
  ·unfold fsym; rw [hf]; simp
  ·have := List.find?_some hf; simpa using this
theorem ref_Symbols (f : GFml) (ho : f.Ok) (hn : ndF f ≤ 900000) : Tri Tryz.prog 36 [f.st] [] (D (.sl ((symL (ocF f [] [])).map GSym.av)) []) := by
 have hO := ref_occ _ f [] [] none 0 (Nat.le_refl _) ho (by simp; omega) (by simp; omega)
 have hOl : (ocF f [] []).length ≤ 900000 := by have := ocF_len f [] []; simp at this; omega
 generalize ocF f [] [] = T at *
 have hol := ordG_len T []
 unfold symL
 generalize hOO : ordG T [] = O at *
 simp only [List.length_nil, Nat.zero_add] at hol
 obtain ⟨k, ar, nm, vars, args, kids⟩ := f
 refine Tri.enter 54 Tryz.func36 rfl rfl rfl rfl fun Fr w0 => ?_
 repeat' (first | (refine AW.r 0 ?_; (refine AL.d (AOp.box_ro (v := .st [.int .i64 k, .int .i64 ar, .str nm, strs vars, strs args, .sl (kids.map GFml.av)]) rfl rfl) ?_) <;> refine AL.es 1 ?_ <;> refine AL.nil ?_) | refine AW.go ?_ | fail)
 refine AW.own_nil 2 ?_
 repeat' (first | fail)
 refine AW.region_at 1 ?_
 refine AL.es 1 ?_
 refine AL.step rfl rfl (AOp.callV (args := [.st [.int .i64 k, .int .i64 ar, .str nm, strs vars, strs args, .sl (kids.map GFml.av)], strs [], .slt [] none 0]) rfl (fun S w a hfr => ?_) hO) ?_ (by rintro _ _ ⟨_, _, e, _⟩; cases e)
 ·have h1 := aeval_rel hfr (x := .tmp 9) rfl
  have h2 := rel_nil (S := S) (w := w)
  simp only [RelVs]
  exact ⟨_, _, rfl, h1.1, h1.2, _, _, rfl, slt_sl _ _ _ h2.1, (fun cs e => by cases e), _, _, rfl, h2.1, h2.2, rfl⟩
 rintro _ _ ⟨tb, tc, e, rfl⟩
 injection e with e
 subst e
 refine AL.es 1 ?_
 refine AL.nil ?_
 refine AW.as_sl 3 rfl ?_
 refine AW.drop (List.nil_sublist _) ?_
 repeat' (first | refine AW.re 2 1 ?_ | refine AW.re 3 1 ?_ | refine AW.go ?_ | fail)
 refine AW.prune [3, 4, 5] (AW.loop (fun mz af h => ∃ (i : Nat) (o : List ByteArray), i ≤ T.length ∧ mz = T.length - i ∧ af = [(3, .sl (T.map GSym.av)), (4, strs o), (5, .int .i64 i)] ∧ h = [] ∧ (O = ordG (T.drop i) o ∧ o.length ≤ i)) T.length ⟨0, [], Nat.zero_le _, rfl, rfl, rfl, ⟨hOO.symm, Nat.le_refl _⟩⟩ ?_)
 rintro mz af h ⟨i, o, hi, rfl, rfl, rfl, he⟩
 refine AW.seq ?_
 by_cases hlt : i < T.length
 all_goals obtain ⟨he, hoi⟩ := he
 ·obtain ⟨x, hx⟩ := get_lt hlt
  have hx' : (T.map GSym.av)[((i : Nat) : Int).toNat]? = some x.av := map_get hx
  have hR := ref_sorted o x.Name (by omega)
  have hrl := risP_len o x.Name
  rw [drop_cons hx, ordG] at he
  repeat' (first | refine AW.re 4 4 ?_ | (refine xS 6 3 ?_; refine AL.d (iX hx') ?_; refine AL.es 2 ?_; refine AL.d (AOp.call rfl rfl hR) ?_; refine xN 1 ?_) | (refine xS 5 1 ?_; refine AL.d AOp.ad ?_; refine xN 1 ?_) | refine AW.jj (fun hb => ?_) (fun hb => ?_) | refine AW.go ?_ | fail)
  all_goals try (exfalso; simp only [dT, dF, lM] at *; omega)
  exact AW.again_keep (T.length - (i + 1)) [3, 4, 5] (by omega) ⟨i + 1, _, hlt, rfl, rfl, rfl, he, by omega⟩
 ·rw [List.drop_eq_nil_of_le (by omega), ordG] at he
  subst he
  repeat' (first | refine AW.re 4 4 ?_ | refine AW.jj (fun hb => ?_) (fun hb => ?_) | refine AW.go ?_ | fail)
  all_goals try (exfalso; simp only [dT, dF, lM] at *; omega)
  refine AW.own_nil 2 ?_
  repeat' (first | (refine AW.r 7 ?_; refine AL.d AOp.assign_nil ?_; refine AL.nil ?_) | (refine AW.r 8 ?_; refine AL.e ?_; refine AL.nil ?_) | refine AW.go ?_ | fail)
  refine AW.prune [3, 4, 6, 7] (AW.loop (fun mz af h => ∃ (i : Nat) (out : List GSym) (tb : Option Nat) (tc : Nat), i ≤ O.length ∧ mz = O.length - i ∧ af = [(3, .sl (T.map GSym.av)), (4, strs O), (6, .slt (out.map GSym.av) tb tc), (7, .int .i64 i)] ∧ h = [.tail tb (out.map GSym.av).length tc 2] ∧ (out = (O.take i).flatMap (fsym T) ∧ out.length ≤ i)) O.length ⟨0, [], none, 0, Nat.zero_le _, rfl, rfl, rfl, ⟨rfl, Nat.le_refl _⟩⟩ ?_)
  rintro mz af h ⟨i, out, tb, tc, hi, rfl, rfl, rfl, he⟩
  refine AW.seq ?_
  by_cases hlt : i < O.length
  all_goals obtain ⟨he, hlo⟩ := he
  ·obtain ⟨x, hx⟩ := get_lt hlt
   have hx' : (O.map AV.str)[((i : Nat) : Int).toNat]? = some (.str x) := map_get hx
   have htk : O.take (i + 1) = O.take i ++ [x] := by rw [List.take_add_one, hx]; rfl
   have hft : (O.take (i + 1)).flatMap (fsym T) = out ++ fsym T x := by rw [htk, List.flatMap_append, he]; simp
   have hlt0 := hlt
   obtain ⟨I0, hI0⟩ : ∃ j : Nat, j = i := ⟨i, rfl⟩
   subst hI0
   repeat' (first | refine AW.re 9 4 ?_ | refine AW.re 11 1 ?_ | refine AW.jj (fun hb => ?_) (fun hb => ?_) | refine AW.go ?_ | fail)
   all_goals try (exfalso; simp only [dT, dF, lM] at *; omega)
   refine AW.prune [3, 4, 6, 7, 8] (AW.loop (fun mz af h => ∃ (i : Nat), i ≤ T.length ∧ mz = T.length - i ∧ af = [(3, .sl (T.map GSym.av)), (4, strs O), (6, .slt (out.map GSym.av) tb tc), (7, .int .i64 I0), (8, .int .i64 i)] ∧ h = [.tail tb (out.map GSym.av).length tc 2] ∧ (fsym T x = fsym (T.drop i) x)) T.length ⟨0, Nat.zero_le _, rfl, rfl, rfl, rfl⟩ ?_)
   rintro mz af h ⟨i, hi, rfl, rfl, rfl, he⟩
   refine AW.seq ?_
   by_cases hlt : i < T.length
   ·obtain ⟨y, hy⟩ := get_lt (show i < T.length by omega)
    have hyp : (T.map GSym.av)[((i : Nat) : Int).toNat]? = some (.st [.str y.Name, .int .i64 y.Arity]) := map_get hy
    rw [drop_cons hy] at he
    repeat' (first | refine AW.re 12 4 ?_ | (refine AW.dq 14 ?_; refine AQ.es 2 ?_; refine AQ.p rfl (iX hyp) ?_; refine AQ.es 4 ?_; refine AQ.p rfl (iX hx') ?_; refine AQ.es 2 ?_; refine AQ.nil ?_) | refine AW.jj (fun hb => ?_) (fun hb => ?_) | refine AW.go ?_ | fail)
    all_goals try (exfalso; simp only [dT, dF, lM] at *; omega)
    all_goals rw [toList_beq] at hb
    ·have hf : fsym T x = [y] := by rw [he]; unfold fsym; rw [List.find?_cons_of_pos (by simpa using hb)]; rfl
     repeat' (first | (refine xS 15 3 ?_; refine AL.d (iX hyp) ?_; refine AL.es 1 ?_; refine AL.d (AOp.lit (e := 64) (sz := 2) (by kernel_rfl) rfl rfl rfl (P_one rfl) (by decide)) ?_; refine AL.append (i := 0) (e := 64) (sz := 2) (bytes := 24) rfl rfl rfl rfl (by kernel_rfl) (by kernel_rfl) (by repeat' (exact P_map fun _ => rfl)) (by repeat' (exact P_one rfl)) (ok_all (by repeat' (exact P_one rfl))) (by (try simp only [lA, lM, List.length_take, List.length_drop, List.length_cons, List.length_nil, List.length_replicate]); omega) (by (try simp only [lA, lM, List.length_take, List.length_drop, List.length_cons, List.length_nil, List.length_replicate]); omega) rfl fun b' c' => ?_ <;> refine AL.es 1 ?_ <;> refine AL.nil ?_) | (refine xS 10 1 ?_; refine AL.d AOp.ad ?_; refine xN 1 ?_) | fail)
     have hmm : (out ++ [y]).map GSym.av = out.map GSym.av ++ [AV.st [.str y.Name, .int .i64 y.Arity]] := by simp [GSym.av]
     refine AW.again_keep (O.length - (I0 + 1)) [3, 4, 6, 7] (by omega) ⟨I0 + 1, out ++ [y], b', c', hlt0, rfl, ?_, ?_, ?_, by simp; omega⟩
     ·rw [hmm]; rfl
     ·rw [hmm]; rfl
     ·rw [hft, hf]
    ·have hf : fsym (y :: T.drop (i + 1)) x = fsym (T.drop (i + 1)) x := by unfold fsym; rw [List.find?_cons_of_neg (by simpa using hb)]
     repeat' (first | (refine xS 13 1 ?_; refine AL.d AOp.ad ?_; refine xN 1 ?_) | fail)
     exact AW.again_keep (T.length - (i + 1)) [3, 4, 6, 7, 8] (by omega) ⟨i + 1, hlt, rfl, rfl, rfl, he.trans hf⟩
   ·rw [List.drop_eq_nil_of_le (by omega)] at he
    repeat' (first | refine AW.re 12 4 ?_ | (refine xS 10 1 ?_; refine AL.d AOp.ad ?_; refine xN 1 ?_) | refine AW.jj (fun hb => ?_) (fun hb => ?_) | refine AW.go ?_ | fail)
    all_goals try (exfalso; simp only [dT, dF, lM] at *; omega)
    exact AW.again_keep (O.length - (I0 + 1)) [3, 4, 6, 7] (by omega) ⟨I0 + 1, out, tb, tc, hlt0, rfl, rfl, rfl, by rw [hft, he]; simp [fsym], by omega⟩
  ·rw [List.take_of_length_le (by omega)] at he
   subst he
   repeat' (first | refine AW.re 9 4 ?_ | refine AW.jj (fun hb => ?_) (fun hb => ?_) | refine AW.go ?_ | fail)
   all_goals try (exfalso; simp only [dT, dF, lM] at *; omega)
   refine AW.as_sl 6 rfl ?_
   repeat' (first | refine AW.re 16 2 ?_ | fail)
   exact AW.ret_drop rfl (List.nil_sublist _) ⟨rfl, rfl⟩
theorem lkT_none {α : Type} {s : ByteArray} : ∀ {T : List (ByteArray × α)}, lkT T s = none ↔ ∀ p ∈ T, p.1 ≠ s
  | [] => by simp [lkT]
  | p :: T => by
    rw [lkT]
    have ih := lkT_none (α := α) (s := s) (T := T)
    cases h : lkT T s with
    | some x => rw [h] at ih; simp only [List.mem_cons]; constructor
                · intro e; cases e
                · intro e; exact absurd (ih.2 fun q hq => e q (.inr hq)) (by simp)
    | none =>
      have ih := ih.1 h
      by_cases e : p.1 = s
      · simp [e]
      · simp only [e, if_false, true_iff, List.mem_cons]
        rintro q (rfl | hq)
        · exact e
        · exact ih q hq
def NT.setm (n : NT) (m : Mm) : NT := .mk n.b n.f m n.kids
def Mm.nms : Mm → List ByteArray | .m0 => [] | .m1 _ l => l | .m2 _ l _ _ => l
theorem nbox_kn2 {m : Mm} (h : m.kn = true) (f : GFml) (kb : List Nat) : nbox f kb m = .st [f.st, .sl (kb.map fun b => .ref b 0), .bool true, .bool m.fr, .bool m.dn, .bool m.nn, strs m.nms, m.tab] := by
  cases m with
  | m0 => cases h
  | m1 fr l => rfl
  | m2 fr l nn t => rfl
theorem hH_mk (bw : Nat) (s : WS) (b : Nat) (f : GFml) (m : Mm) (kids : List NT) : hH bw s (.mk b f m kids) = .box b (nbox f (kids.map NT.b) m) :: (wH bw s ++ (m.own ++ nownL kids)) := rfl
theorem hH_kn {m : Mm} (h : m.kn = true) (bw : Nat) (s : WS) (b : Nat) (f : GFml) (kids : List NT) : hH bw s (.mk b f m kids) = .box b (.st [f.st, .sl ((kids.map NT.b).map fun b => .ref b 0), .bool true, .bool m.fr, .bool m.dn, .bool m.nn, strs m.nms, m.tab]) :: (wH bw s ++ (m.own ++ nownL kids)) := by
  rw [hH_mk, nbox_kn2 h]
theorem mOk_alone {N M : Nat} {T0 : TT} {f : GFml} {m : Mm} (hk : m.kn = true) (h : mOk N M T0 f m) : aloneOk f m.fr m.nms := by
  cases m with
  | m0 => cases hk
  | m1 fr l => exact h
  | m2 fr l nn t => exact h.1
theorem alone_new {f x : GFml} (hkids : f.Kids = [x]) (hn : ndF x ≤ 100000) : aloneOk f ((frF x).all fun v => has f.Vars v) (((symL (ocF x [] [])).filter fun y => !decide (y.Name = f.Name)).map GSym.Name) := by
  refine ⟨fun h s hs => ?_, fun s hs => ?_, ?_⟩
  · rw [hkids, fvBL, fvBL, Bool.or_false] at hs
    exact has_mem.1 (List.all_eq_true.1 h s ((frF_fv x s).2 hs))
  · rw [hkids, ocsL, ocsL, Bool.or_false] at hs
    obtain ⟨y, hy, e⟩ := ocs_oc s x [] [] hs (by simp)
    obtain ⟨z, hz, e2⟩ := symL_name hy
    by_cases e3 : s = f.Name
    · exact .inl e3
    · refine .inr (List.mem_map.2 ⟨z, List.mem_filter.2 ⟨hz, ?_⟩, e2.trans e⟩)
      rw [e2, e]; simp [e3]
  · have h1 := symL_len (ocF x [] [])
    have h2 := ocF_len x [] []
    have h3 := List.length_filter_le (fun y : GSym => !decide (y.Name = f.Name)) (symL (ocF x [] []))
    rw [lM]; simp at h2; omega
theorem w_alone (bw N M : Nat) (T0 : TT) (n : NT) (s : WS) (x : GFml) (hs : s.Ok) (hb : s.base ≤ s.ts.length) (hkids : n.f.Kids = [x]) (hx : x.Ok) (hnd : ndF x ≤ 40000) (hsh : shsF x = true) (hv : n.f.Vars.length ≤ 100000) (hK : mOk N M T0 n.f n.m) :
    Tri Tryz.prog 194 [.ref bw 0, .ref n.b 0] (hH bw s n)
      (fun r h => ∃ (b : Bool) (m' : Mm), r = .ret (.bool b) ∧ h = hH bw s (n.setm m') ∧ mOk N M T0 n.f m' ∧ m'.kn = true ∧ (n.m.kn = true → m' = n.m) ∧ (n.m.kn = false → m'.dn = false) ∧ (b = true → m'.fr = true ∧ Alone s.T s.base n.f)) := by
  have hF := ref_Free _ x (Nat.le_refl _) hx (by have := agF_len x hsh; omega)
  have hS := ref_Symbols x hx (by omega)
  have hfl : (frF x).length ≤ 1000000 := by have h1 := frF_len x; have h2 := agF_len x hsh; omega
  have hsl : (symL (ocF x [] [])).length ≤ 40000 := by have h1 := symL_len (ocF x [] []); have h2 := ocF_len x [] []; simp at h2; omega
  have hnew := alone_new hkids (by omega)
  obtain ⟨FF, hFF⟩ : ∃ F, F = frF x := ⟨_, rfl⟩
  obtain ⟨SS, hSS⟩ : ∃ F, F = symL (ocF x [] []) := ⟨_, rfl⟩
  rw [← hFF] at hF hfl hnew
  rw [← hSS] at hS hsl hnew
  have hA := fun v => Among_has n.f.Vars (by omega) v
  obtain ⟨b, f, m, kids⟩ := n
  obtain ⟨k, ar, nm, vars, args, fk⟩ := f
  simp only [NT.f, NT.m, NT.b] at *
  subst hkids
  obtain ⟨kb, hkb⟩ : ∃ kb, kb = (kids.map NT.b).map fun b => AV.ref b 0 := ⟨_, rfl⟩
  have hx0 : ([x].map GFml.av)[((0 : Nat) : Int).toNat]? = some x.st := by rw [← GFml.av_eq]; rfl
  have hx0' : ([x].map GFml.av)[(0 : Int).toNat]? = some x.st := hx0
  refine Tri.enter 123 Tryz.func194 rfl rfl rfl rfl fun Fr w0 => ?_
  repeat' (first | refine AW.re 0 1 ?_ | fail)
  refine AW.seq ?_
  refine AW.cut (fun af h => ∃ m', af = [(0, .ref bw 0), (1, .ref b 0)] ∧ h = hH bw s (.mk b ⟨k, ar, nm, vars, args, [x]⟩ m' kids) ∧ mOk N M T0 ⟨k, ar, nm, vars, args, [x]⟩ m' ∧ m'.kn = true ∧ (m.kn = true → m' = m) ∧ (m.kn = false → m'.dn = false)) ?_ ?_
  · cases hm : m.kn with
    | true =>
      refine AW.frame_eq rfl (show _ = .box b (.st [.st [.int .i64 k, .int .i64 ar, .str nm, strs vars, strs args, .sl ([x].map GFml.av)], .sl kb, .bool true, .bool m.fr, .bool m.dn, .bool m.nn, strs m.nms, m.tab]) :: (wH bw s ++ (m.own ++ nownL kids)) from by rw [hkb, hH_kn hm]; rfl) ?_
      repeat' (first | (refine xS 1 2 ?_; refine AL.d (AOp.fr 7) ?_; refine AL.d (AOp.ll 0) ?_; refine xN 1 ?_) | refine AW.jf ?_ | refine AW.go ?_ | fail)
      refine AW.meet [0, 1] ⟨m, rfl, ?_, hK, hm, fun _ => rfl, fun h => by cases h⟩
      rw [hkb, hH_kn hm]; rfl
    | false =>
      obtain rfl : m = .m0 := by cases m <;> first | rfl | cases hm
      refine AW.frame_eq rfl (show _ = .box b (.st [.st [.int .i64 k, .int .i64 ar, .str nm, strs vars, strs args, .sl ([x].map GFml.av)], .sl kb, .bool false, .bool false, .bool false, .bool false, .slt [] none 0, zTab]) :: (wH bw s ++ nownL kids) from by rw [hkb]; rfl) ?_
      repeat' (first | (refine xS 1 2 ?_; refine AL.d (AOp.fr 7) ?_; refine AL.d (AOp.ll 0) ?_; refine xN 1 ?_) | (refine xS 2 3 ?_; refine AL.d (AOp.fr 7) ?_; refine AL.sl 0 ?_; refine AL.es 1 ?_; refine AL.d (AOp.fr 8) ?_; refine AL.sl 0 ?_; refine AL.nil ?_) | (refine xS 3 2 ?_; refine AL.d (AOp.fr 0) ?_; refine AL.d (AOp.fr 5) ?_; refine AL.d (AOp.ll 0) ?_; refine AL.d (iX hx0') ?_; refine AL.d AOp.la ?_; refine AL.d (AOp.call rfl rfl (hF.pure _)) ?_; refine xN 1 ?_) | refine AW.re 4 1 ?_ | refine AW.jt ?_ | refine AW.go ?_ | fail)
      refine AW.prune [0, 1, 5, 6] (AW.loop (fun mz af h => ∃ (i : Nat), i ≤ FF.length ∧ mz = FF.length - i ∧ af = [(0, .ref bw 0), (1, .ref b 0), (5, strs FF), (6, .int .i64 i)] ∧ h = .box b (.st [.st [.int .i64 k, .int .i64 ar, .str nm, strs vars, strs args, .sl ([x].map GFml.av)], .sl kb, .bool true, .bool ((FF.take i).all fun v => has vars v), .bool false, .bool false, .slt [] none 0, zTab]) :: (wH bw s ++ nownL kids) ∧ True) FF.length ⟨0, Nat.zero_le _, rfl, rfl, rfl, trivial⟩ ?_)
      rintro mz af h ⟨i, hi, rfl, rfl, rfl, he⟩
      refine AW.seq ?_
      by_cases hlt : i < FF.length
      · obtain ⟨v, hv⟩ := get_lt hlt
        have hv' : (FF.map AV.str)[((i : Nat) : Int).toNat]? = some (.str v) := map_get hv
        have hAv := hA v
        have hall : ((FF.take (i + 1)).all fun v => has vars v) = (((FF.take i).all fun v => has vars v) && has vars v) := by
          rw [List.take_add_one, hv, List.all_append]; simp
        generalize ((FF.take i).all fun v => has vars v) = B at hall ⊢
        cases B <;>
        · repeat' (first | refine AW.re 5 4 ?_ | (refine AW.dl 7 19 ?_; refine AQ.es 3 ?_; refine AQ.p rfl (AOp.fr 8) ?_; refine AQ.p rfl (AOp.ll 0) ?_; refine AQ.es 1 ?_; refine AQ.es 2 ?_; (first | refine AQ.gp rfl (AOp.fr 0) ?_ | refine AQ.k ?_) <;> (first | refine AQ.gp rfl (AOp.fr 3) ?_ | refine AQ.k ?_) <;> (first | refine AQ.gp rfl (AOp.ll 0) ?_ | refine AQ.k ?_) <;> refine AQ.es 2 ?_ <;> (first | refine AQ.gp rfl (iX hv') ?_ | refine AQ.k ?_) <;> (first | refine AQ.gp rfl AOp.la ?_ | refine AQ.k ?_) <;> (first | refine AQ.gp rfl (AOp.call rfl rfl (hAv.pure _)) ?_ | refine AQ.k ?_) <;> refine AQ.es 2 ?_ <;> (refine AQ.p rfl (AOp.fr 8) ?_) <;> refine AQ.nil ?_ <;> refine AL.sl 0 ?_ <;> refine AL.nil ?_) | (refine xS 6 1 ?_; refine AL.d AOp.ad ?_; refine xN 1 ?_) | refine AW.jj (fun hb => ?_) (fun hb => ?_) | refine AW.go ?_ | fail)
          all_goals try (exfalso; simp only [dT, dF, lM] at *; omega)
          exact AW.again_keep (FF.length - (i + 1)) [0, 1, 5, 6] (by omega) ⟨i + 1, hlt, rfl, rfl, by rw [hall]; rfl, trivial⟩
      · rw [List.take_of_length_le (by omega)]
        generalize hFA : (FF.all fun v => has vars v) = FA at *
        repeat' (first | refine AW.re 5 4 ?_ | (refine xS 8 2 ?_; refine AL.d (AOp.fr 0) ?_; refine AL.d (AOp.fr 5) ?_; refine AL.d (AOp.ll 0) ?_; refine AL.d (iX hx0') ?_; refine AL.d AOp.la ?_; refine AL.d (AOp.call rfl rfl (hS.pure _)) ?_; refine xN 1 ?_) | refine AW.re 9 1 ?_ | refine AW.jj (fun hb => ?_) (fun hb => ?_) | refine AW.go ?_ | fail)
        all_goals try (exfalso; simp only [dT, dF, lM] at *; omega)
        refine AW.own_nil 1 ?_
        refine AW.prune [0, 1, 7, 8] (AW.loop (fun mz af h => ∃ (i : Nat) (out : List ByteArray) (tb : Option Nat) (tc : Nat), i ≤ SS.length ∧ mz = SS.length - i ∧ af = [(0, .ref bw 0), (1, .ref b 0), (7, .sl (SS.map GSym.av)), (8, .int .i64 i)] ∧ h = .tail tb (out.map AV.str).length tc 1 :: .box b (.st [.st [.int .i64 k, .int .i64 ar, .str nm, strs vars, strs args, .sl ([x].map GFml.av)], .sl kb, .bool true, .bool FA, .bool false, .bool false, .slt (out.map AV.str) tb tc, zTab]) :: (wH bw s ++ nownL kids) ∧ (out = (((SS.take i).filter fun y => !decide (y.Name = nm)).map GSym.Name) ∧ out.length ≤ i)) SS.length ⟨0, [], none, 0, Nat.zero_le _, rfl, rfl, rfl, ⟨rfl, Nat.le_refl _⟩⟩ ?_)
        rintro mz af h ⟨i, out, tb, tc, hi, rfl, rfl, rfl, he⟩
        refine AW.seq ?_
        by_cases hlt : i < SS.length
        all_goals obtain ⟨he, hlo⟩ := he
        · obtain ⟨y, hy⟩ := get_lt hlt
          have hy' : (SS.map GSym.av)[((i : Nat) : Int).toNat]? = some (.st [.str y.Name, .int .i64 y.Arity]) := map_get hy
          have htk : SS.take (i + 1) = SS.take i ++ [y] := by rw [List.take_add_one, hy]; rfl
          repeat' (first | refine AW.re 10 4 ?_ | (refine AW.dq 12 ?_; refine AQ.es 2 ?_; refine AQ.p rfl (iX hy') ?_; refine AQ.p rfl AOp.fa ?_; refine AQ.p rfl AOp.la ?_; refine AQ.es 2 ?_; refine AQ.p rfl (AOp.fr 0) ?_; refine AQ.p rfl (AOp.fr 2) ?_; refine AQ.p rfl (AOp.ll 1) ?_; refine AQ.es 1 ?_; refine AQ.nil ?_) | refine AW.jj (fun hb => ?_) (fun hb => ?_) | refine AW.go ?_ | fail)
          all_goals try (exfalso; simp only [dT, dF, lM] at *; omega)
          all_goals rw [toList_beq] at hb
          · have hb : ¬ y.Name = nm := by simpa using hb
            repeat' (first | (refine AW.ex 13 [true, true] [11, 14] ?_; refine AQE.e ?_; refine AQE.e ?_; refine AQE.e ?_; refine AQE.p rfl (AOp.fr 11) ?_; refine AQE.pe rfl (AOp.ll 1) ?_; refine AQE.e ?_; refine AQE.e ?_; refine AQE.p rfl (iX hy') ?_; refine AQE.p rfl AOp.fa ?_; refine AQE.p rfl AOp.la ?_; refine AQE.p rfl (AOp.lit (e := 9) (sz := 1) (by kernel_rfl) rfl rfl rfl (P_one rfl) (by decide)) ?_; refine AQE.hl ?_; refine AQE.e ?_; refine AQE.p rfl (AOp.fr 11) ?_; refine AQE.hl ?_; refine AQE.nil ?_; refine AX.o (n := 1) 11 ?_; refine AXO.append (i := 0) (e := 9) (sz := 1) (bytes := 16) rfl rfl rfl rfl (by kernel_rfl) (by kernel_rfl) (by repeat' (exact P_map fun _ => rfl)) (by repeat' (exact P_one rfl)) (ok_all (by repeat' (exact P_one rfl))) (by (try simp only [lA, lM, List.length_take, List.length_drop, List.length_cons, List.length_nil, List.length_replicate]); omega) (by (try simp only [lA, lM, List.length_take, List.length_drop, List.length_cons, List.length_nil, List.length_replicate]); omega) rfl fun b' c' => ?_ <;> try dsimp only [sA, sB, sC, sD] <;> refine AX.o (n := 0) 14 ?_ <;> (refine AXO.sl 1 fun _ => ?_) <;> try dsimp only [sA, sB, sC, sD] <;> refine AX.done_keep [0, 1, 4, 5, 6, 7, 8, 9, 10, 11, 12, 13, 14, 15, 16, 17, 18, 19, 20, 21, 22, 23, 24, 25, 26, 27, 28, 29, 30, 31, 32, 33, 34, 35, 36, 37, 38, 39, 40, 41, 42, 43, 44, 45, 46, 47, 48, 49, 50, 51, 52, 53, 54, 55, 56, 57, 58, 59, 60, 61, 62, 63, 64, 65, 66, 67, 68, 69, 70, 71, 72, 73, 74, 75, 76, 77, 78, 93, 94, 95, 96, 97, 98, 99, 100, 101, 102, 103, 104, 105, 106, 107, 108, 109, 110, 111, 112, 113, 114, 115, 116, 117, 118, 119, 120, 121, 122] ?_) | (refine xS 11 1 ?_; refine AL.d AOp.ad ?_; refine xN 1 ?_) | fail)
            have hmm : (out ++ [y.Name]).map AV.str = out.map AV.str ++ [.str y.Name] := by simp
            refine AW.again_keep (SS.length - (i + 1)) [0, 1, 7, 8] (by omega) ⟨i + 1, out ++ [y.Name], b', c', hlt, rfl, rfl, ?_, ?_, by simp; omega⟩
            · rw [hmm]; rfl
            · rw [htk, List.filter_append, List.map_append, he]; simp [hb]
          · have hb : y.Name = nm := by simpa using hb
            repeat' (first | (refine xS 11 1 ?_; refine AL.d AOp.ad ?_; refine xN 1 ?_) | fail)
            refine AW.again_keep (SS.length - (i + 1)) [0, 1, 7, 8] (by omega) ⟨i + 1, out, tb, tc, hlt, rfl, rfl, rfl, ?_, by omega⟩
            rw [htk, List.filter_append, List.map_append, he]; simp [hb]
        · rw [List.take_of_length_le (by omega)] at he
          repeat' (first | refine AW.re 10 4 ?_ | refine AW.jj (fun hb => ?_) (fun hb => ?_) | refine AW.go ?_ | fail)
          all_goals try (exfalso; simp only [dT, dF, lM] at *; omega)
          refine AW.weak_box 1 (.st [.st [.int .i64 k, .int .i64 ar, .str nm, strs vars, strs args, .sl ([x].map GFml.av)], .sl kb, .bool true, .bool FA, .bool false, .bool false, strs out, zTab]) rfl (Wk.st (.cons (Wk.refl _) (.cons (Wk.refl _) (.cons (Wk.refl _) (.cons (Wk.refl _) (.cons (Wk.refl _) (.cons (Wk.refl _) (.cons Wk.slt (.cons (Wk.refl _) .nil))))))))) ?_
          refine AW.drop (List.sublist_cons_self _ _) ?_
          refine AW.meet [0, 1] ⟨.m1 FA out, rfl, ?_, ?_, rfl, (fun h => by cases h), fun _ => rfl⟩
          · rw [hkb]; rfl
          · rw [he]; exact hnew
  · rintro _ _ ⟨m', rfl, rfl, hm1, hm2, hm3, hm4⟩
    have hal := mOk_alone hm2 hm1
    have hAn := fun v => Among_has m'.nms (by have := hal.2.2; omega) v
    obtain ⟨n1, n2, t1, t2, t3, _⟩ := hs
    have hcl := tcells_len s.ts
    have hfr : ∀ v, ((s.T.drop s.base).all fun p => !has m'.nms p.1) = v → v = true → m'.fr = true → Alone s.T s.base ⟨k, ar, nm, vars, args, [x]⟩ := fun v hv e hfr => by
      subst e
      refine ⟨hal.1 hfr, fun t ht hne => ?_⟩
      have hin := (hal.2.1 t ht).resolve_left hne
      refine lkT_none.2 fun p hp e => ?_
      have := List.all_eq_true.1 hv p hp
      rw [e, has_mem.2 hin] at this
      cases this
    refine AW.frame_eq rfl (show _ = .box b (.st [.st [.int .i64 k, .int .i64 ar, .str nm, strs vars, strs args, .sl ([x].map GFml.av)], .sl kb, .bool true, .bool m'.fr, .bool m'.dn, .bool m'.nn, strs m'.nms, m'.tab]) :: (wH bw s ++ (m'.own ++ nownL kids)) from by rw [hkb, hH_kn hm2]; rfl) ?_
    repeat' (first | (refine xS 14 2 ?_; refine AL.d (AOp.fr 1) ?_; refine AL.d (AOp.ll 1) ?_; refine xN 1 ?_) | refine AW.go ?_ | fail)
    refine AW.prune [0, 1, 9] (AW.loop (fun mz af h => ∃ i : Nat, s.base ≤ i ∧ i ≤ s.ts.length ∧ mz = s.ts.length - i ∧ af = [(0, .ref bw 0), (1, .ref b 0), (9, .int .i64 i)] ∧ h = .box b (.st [.st [.int .i64 k, .int .i64 ar, .str nm, strs vars, strs args, .sl ([x].map GFml.av)], .sl kb, .bool true, .bool m'.fr, .bool m'.dn, .bool m'.nn, strs m'.nms, m'.tab]) :: (wH bw s ++ (m'.own ++ nownL kids)) ∧ (((s.T.take i).drop s.base).all fun p => !has m'.nms p.1) = true) (s.ts.length - s.base) ⟨s.base, Nat.le_refl _, hb, rfl, rfl, rfl, by rw [List.drop_eq_nil_of_le (by rw [List.length_take]; omega)]; rfl⟩ ?_)
    rintro mz af h ⟨i, hi0, hi, rfl, rfl, rfl, he⟩
    refine AW.seq ?_
    by_cases hlt : i < s.ts.length
    · obtain ⟨t, ht⟩ := get_lt hlt
      obtain ⟨bt, hbt⟩ : ∃ b, s.to = some b := by
        cases h : s.to with
        | none => have := t2 h; omega
        | some b => exact ⟨b, rfl⟩
      obtain ⟨c0, c1, c2⟩ := tcells_get s.ts i t ht
      have hx0 : (tcells s.ts ++ s.tt)[((i : Nat) : Int).toNat * 3 + 0]? = some (.str t.nm) := by
        rw [show ((i : Nat) : Int).toNat * 3 + 0 = 3 * i by omega, List.getElem?_append_left (by omega)]; exact c0
      have hh2 : (Own.box b (.st [.st [.int .i64 k, .int .i64 ar, .str nm, strs vars, strs args, .sl ([x].map GFml.av)], .sl kb, .bool true, .bool m'.fr, .bool m'.dn, .bool m'.nn, strs m'.nms, m'.tab]) :: (wH bw s ++ (m'.own ++ nownL kids)))[2]? = some (.row bt (tcells s.ts ++ s.tt)) := by
        show some (bfO s.to _) = _; rw [hbt]; rfl
      have hA1 : bfA s.to = some ⟨bt, 0, none⟩ := by rw [hbt]; rfl
      have hAt := hAn t.nm
      have hT : s.T[i]? = some (t.nm, t.bits) := by unfold WS.T; rw [List.getElem?_map, ht]; rfl
      have htk : (s.T.take (i + 1)).drop s.base = (s.T.take i).drop s.base ++ [(t.nm, t.bits)] := by
        have hl : i < s.T.length := by unfold WS.T; rw [lM]; exact hlt
        rw [List.take_add_one, hT, List.drop_append, List.length_take, Nat.min_eq_left (by omega), show s.base - i = 0 by omega]; rfl
      repeat' (first | (refine xS 15 3 ?_; refine AL.d (AOp.fr 2) ?_; refine AL.d (AOp.ll 1) ?_; refine AL.d (AOp.len_val (by kernel_rfl) rfl) ?_; refine xN 1 ?_) | (refine AW.dl 17 12 ?_; refine AQ.es 2 ?_; refine AQ.p rfl (AOp.fr 11) ?_; refine AQ.p rfl (AOp.ll 0) ?_; refine AQ.es 2 ?_; refine AQ.p rfl (AOp.fr 2) ?_; refine AQ.p rfl (AOp.ll 1) ?_; refine AQ.es 1 ?_; refine AQ.p rfl (AOp.index_val 3 rfl hA1 rfl (by omega) (by omega) (by kernel_rfl)) ?_; refine AQ.p rfl (AOp.fr 0) ?_; refine AQ.p rfl (AOp.load_cell 2 rfl hh2 hx0 rfl (by kernel_rfl)) ?_; refine AQ.nil ?_; refine AL.d (AOp.call rfl rfl (hAt.pure _)) ?_; refine AL.nil ?_) | refine AW.jj (fun hb => ?_) (fun hb => ?_) | refine AW.go ?_ | fail)
      all_goals try (exfalso; simp only [dT, dF, lM] at *; omega)
      · repeat' (first | refine AW.re 18 1 ?_ | fail)
        exact AW.retv rfl ⟨false, m', rfl, by show _ = hH bw s (.mk b _ m' kids); rw [hkb, hH_kn hm2]; rfl, hm1, hm2, hm3, hm4, fun h => by cases h⟩
      · repeat' (first | (refine xS 16 1 ?_; refine AL.d AOp.ad ?_; refine xN 1 ?_) | fail)
        refine AW.again_keep (s.ts.length - (i + 1)) [0, 1, 9] (by omega) ⟨i + 1, by omega, hlt, rfl, rfl, rfl, ?_⟩
        rw [htk, List.all_append, he]
        have hb : has m'.nms t.nm = false := hb
        simp [hb]
    · repeat' (first | (refine xS 15 3 ?_; refine AL.d (AOp.fr 2) ?_; refine AL.d (AOp.ll 1) ?_; refine AL.d (AOp.len_val (by kernel_rfl) rfl) ?_; refine xN 1 ?_) | refine AW.jj (fun hb => ?_) (fun hb => ?_) | refine AW.go ?_ | fail)
      all_goals try (exfalso; simp only [dT, dF, lM] at *; omega)
      repeat' (first | (refine xS 19 2 ?_; refine AL.d (AOp.fr 8) ?_; refine AL.d (AOp.ll 0) ?_; refine xN 1 ?_) | fail)
      refine AW.retv rfl ⟨m'.fr, m', rfl, by show _ = hH bw s (.mk b _ m' kids); rw [hkb, hH_kn hm2]; rfl, hm1, hm2, hm3, hm4, fun h => ⟨h, hfr _ rfl ?_ h⟩⟩
      rw [List.take_of_length_le (by unfold WS.T; rw [lM]; omega)] at he
      exact he
theorem HoldsAt.same {bw : Nat} {K : NT → Prop} {s s' : WS} {o o' : Option Nat} {c c' : Nat} {tl tl' : List AV} {t t' : TE} {n n' : NT} {names : List ByteArray} {tp : List Int} {v : Bool} (h : HoldsAt bw K (s.push o c tl t) n names tp v) (hs : Same s s') (hb : n'.b = n.b) (hf : n'.f = n.f) (ht : t' = t) : HoldsAt bw K (s'.push o' c' tl' t') n' names tp v := by
 subst ht
 intro s2 n2 h1 h2 h3 h4 h5 h6 h7 h8 h9
 refine h s2 n2 h1 (h2.trans hs.N) (h3.trans hs.base) ?_ ?_ ?_ (h7.trans hb) (h8.trans hf) h9
 ·rw [h4]; show s'.ts ++ [t'] = s.ts ++ [t']; rw [hs.ts]
 ·rw [h5]; show s'.ns ++ names = s.ns ++ names; rw [hs.ns]
 ·rw [h6]; show s'.vs ++ tp = s.vs ++ tp; rw [hs.vs]
theorem ref_same2 (ba bb m : Nat) (a b : List Bool) (ha : a.length = m) (hb0 : b.length = m) (hm : m ≤ 1000000) :
  Tri Tryz.prog 214 [.osl ba m m, .osl bb m m] [.row bb (b.map bav), .row ba (a.map bav)] (D (.bool (decide (a = b))) [.row bb (b.map bav), .row ba (a.map bav)]) :=
 Tri.reorder (ref_same ba bb m a b ha hb0 hm) (.swap _ _ _) fun x h ⟨e1, e2⟩ => ⟨_, ⟨e1, rfl⟩, by rw [e2]; exact .swap _ _ _⟩
def seenA (seen : List (List Bool)) : List (ByteArray × Bool) := seen.map fun X => (keyB X, true)
theorem seenA_look {X : List Bool} : ∀ {seen : List (List Bool)}, X ∉ seen → lookA (seenA seen) (keyB X) = none
 | [], _ => rfl
 | Y :: l, h => by
  unfold seenA; rw [List.map_cons, lookA, if_neg fun e => h (by rw [keyB_inj e]; simp)]
  exact seenA_look fun hm => h (by simp [hm])
theorem seenA_hit {X : List Bool} : ∀ {seen : List (List Bool)}, X ∈ seen → lookA (seenA seen) (keyB X) = some true
 | [], h => by cases h
 | Y :: l, h => by
  unfold seenA; rw [List.map_cons, lookA]
  by_cases e : keyB X = keyB Y
  ·rw [if_pos e]
  ·rw [if_neg e]
   exact seenA_hit ((List.mem_cons.1 h).resolve_left fun x => e (by rw [x]))
theorem seenA_push {X : List Bool} {seen : List (List Bool)} (h : X ∉ seen) : setA (seenA seen) (keyB X) true = seenA (seen ++ [X]) := by
 rw [setA_miss (seenA_look h)]; unfold seenA; rw [List.map_append]; rfl
def PJ (N M : Nat) (f : GFml) (T : TT) (V : VV) (L : Nat) (X : List Bool) (seen : List (List Bool)) (mz : Nat) : Prop :=
 X.length = L ∧ ((f.Kind = 8 ∧ seen = [] ∧ ∃ j, fixO N M f T V = some (lfpR (stg N M f T V) (j + 1) X) ∧ L - cntB X ≤ j ∧ LB X (stg N M f T V X) ∧ mz = L - cntB X) ∨
  (f.Kind = 9 ∧ ∃ j, fixO N M f T V = pfpR (stg N M f T V) j seen X ∧ j + seen.length = M ∧ X ∉ seen ∧ seen.length ≤ 5000 ∧ mz = M - seen.length))
section
variable {N M : Nat} {f : GFml} {T : TT} {V : VV} {L : Nat} {X : List Bool} {seen : List (List Bool)} {mz : Nat}
theorem PJ.init (hk : f.Kind = 8 ∨ f.Kind = 9) (hL : L = N ^ f.Vars.length) : ∃ mz, PJ N M f T V L (falses L) [] mz := by
 rcases hk with h | h
 ·refine ⟨_, falses_len L, .inl ⟨h, rfl, L, ?_, by omega, LB.falses _ _, rfl⟩⟩
  unfold fixO; rw [if_pos h, hL]
 ·refine ⟨_, falses_len L, .inr ⟨h, M, ?_, by simp, by simp, by simp, rfl⟩⟩
  unfold fixO; rw [if_neg (by omega), hL]
theorem PJ.stop (h : PJ N M f T V L X seen mz) (hM : 5001 < M) (e : X = stg N M f T V X) : fixO N M f T V = some X := by
 obtain ⟨_, ⟨h1, h2, j, h3, h4, h5, h6⟩ | ⟨h1, j, h3, h4, h5, h6, h7⟩⟩ := h
 ·rw [h3, lfpR, if_pos e.symm]
 ·obtain ⟨i, rfl⟩ : ∃ i, j = i + 1 := ⟨j - 1, by omega⟩
  rw [h3, pfpR, if_pos e.symm]
theorem PJ.next8 (h : PJ N M f T V L X seen mz) (hk : f.Kind = 8) (hL : L = N ^ f.Vars.length) (hS : SM (stg N M f T V)) (e : X ≠ stg N M f T V X) : ∃ mz', mz' < mz ∧ PJ N M f T V L (stg N M f T V X) [] mz' ∧ seen = [] := by
 obtain ⟨hl, ⟨h1, h2, j, h3, h4, h5, h6⟩ | ⟨h1, _⟩⟩ := h
 ·have hsl : (stg N M f T V X).length = L := by rw [stg_len, hL]
  have hc := cnt_lt _ _ (hl.trans hsl.symm) h5 e
  have hc2 := cnt_le (stg N M f T V X)
  obtain ⟨i, rfl⟩ : ∃ i, j = i + 1 := ⟨j - 1, by omega⟩
  refine ⟨L - cntB (stg N M f T V X), by omega, ⟨hsl, .inl ⟨hk, rfl, i, ?_, by omega, hS _ _ h5, rfl⟩⟩, h2⟩
  rw [h3, lfpR, if_neg fun x => e x.symm]
 ·omega
theorem PJ.none1 (h : PJ N M f T V L X seen mz) (hk : f.Kind = 9) (hM : 5001 < M) (e : X ≠ stg N M f T V X) (hm : stg N M f T V X ∈ seen ++ [X] ∨ 5000 < (seen ++ [X]).length) : fixO N M f T V = none := by
 obtain ⟨hl, ⟨h1, _⟩ | ⟨h1, j, h3, h4, h5, h6, h7⟩⟩ := h
 ·omega
 ·obtain ⟨i, rfl⟩ : ∃ i, j = i + 1 := ⟨j - 1, by omega⟩
  rw [h3, pfpR, if_neg fun x => e x.symm]
  by_cases hc : (seen ++ [X]).contains (stg N M f T V X) = true
  ·rw [if_pos hc]
  ·rw [if_neg hc]
   rcases hm with hm | hm
   ·exact (hc (List.contains_iff_mem.2 hm)).elim
   ·rw [if_pos hm]
theorem PJ.next9 (h : PJ N M f T V L X seen mz) (hk : f.Kind = 9) (hL : L = N ^ f.Vars.length) (hM : 5001 < M) (e : X ≠ stg N M f T V X) (hm : stg N M f T V X ∉ seen ++ [X]) (h5 : (seen ++ [X]).length ≤ 5000) : ∃ mz', mz' < mz ∧ PJ N M f T V L (stg N M f T V X) (seen ++ [X]) mz' := by
 obtain ⟨hl, ⟨h1, _⟩ | ⟨h1, j, h3, h4, h6, h7, h8⟩⟩ := h
 ·omega
 ·obtain ⟨i, rfl⟩ : ∃ i, j = i + 1 := ⟨j - 1, by omega⟩
  have hlen : (seen ++ [X]).length = seen.length + 1 := by simp
  refine ⟨M - (seen ++ [X]).length, by omega, by rw [stg_len, hL], .inr ⟨hk, i, ?_, by omega, hm, h5, rfl⟩⟩
  rw [h3, pfpR, if_neg fun x => e x.symm, if_neg fun hc => hm (List.contains_iff_mem.1 hc), if_neg (by omega)]
end
end Go.Proofs.YtlpndgodkkndnaaGreatDoor
