/- Structures: what is found in them; a row more in the machine's map. -/
import Derived.Test.YtdedkpfbfklgbaaC28
namespace Go.Proofs.Ytdedkpfbfklgbaa
open Go.RowKit Go.SX
set_option maxRecDepth 100000
set_option maxHeartbeats 4000000
set_option linter.unusedVariables false
set_option linter.unusedSimpArgs false

theorem idx_spec {α : Type} (p : α → Bool) : ∀ (l : List α) (i : Nat), 0 ≤ idxFrom p l i → ∃ j x, idxFrom p l i = ((i + j : Nat) : Int) ∧ l[j]? = some x ∧ p x = true
  | [], i, h => by simp [idxFrom] at h
  | x :: l, i, h => by
    rw [idxFrom] at h ⊢
    by_cases hp : p x = true
    · rw [if_pos hp]; exact ⟨0, x, by simp, rfl, hp⟩
    · rw [if_neg hp] at h ⊢
      obtain ⟨j, y, h1, h2, h3⟩ := idx_spec p l (i + 1) h
      exact ⟨j + 1, y, by rw [h1]; omega, by simpa using h2, h3⟩
theorem find_rel {s : GStr} {k : ByteArray} {ar : Int} (h : 0 ≤ findI s k ar) : ∃ r, s.Rels[(findI s k ar).toNat]? = some r ∧ r.Name = k ∧ r.Arity = ar ∧ findI s k ar < s.Rels.length := by
  obtain ⟨j, x, h1, h2, h3⟩ := idx_spec _ _ _ h
  have h4 : findI s k ar = ((0 + j : Nat) : Int) := h1
  simp only [Bool.and_eq_true, decide_eq_true_eq] at h3
  have := (List.getElem?_eq_some_iff.1 h2).1
  exact ⟨x, by rw [h4]; simpa using h2, h3.1, h3.2, by rw [h4]; omega⟩
theorem rels_mem {n : Int} {all : List GRel} : ∀ (l : List GRel) (i : Nat), relsGo n all i l = true → ∀ r ∈ l, relB n r = true
  | [], _, _, r, h => by cases h
  | q :: l, i, h, r, hr => by
    simp only [relsGo, Bool.and_eq_true] at h
    rcases List.mem_cons.1 hr with rfl | hr
    · exact h.1.1
    · exact rels_mem l (i + 1) h.2 r hr
theorem valid_rel {s : GStr} (hv : validStr s = true) : 1 ≤ s.Size ∧ s.Size ≤ 64 ∧ ∀ r ∈ s.Rels, relB s.Size r = true := by
  simp only [validStr, Bool.and_eq_true, decide_eq_true_eq] at hv
  exact ⟨hv.1.1.1, hv.1.1.2, rels_mem _ _ hv.2⟩
theorem rel_power {n : Int} (h1 : 1 ≤ n) (h2 : n ≤ 64) {r : GRel} (h : relB n r = true) : (powerR n r.Arity).2 = 0 ∧ 0 ≤ r.Arity ∧ r.Arity ≤ 12 := by
  simp only [relB, Bool.and_eq_true, decide_eq_true_eq] at h
  refine ⟨?_, h.1.1.1.2, h.1.1.2⟩
  unfold powerR
  rw [if_neg (by omega), if_neg (by omega)]
theorem power_val {n k : Int} (h : (powerR n k).2 = 0) : (powerR n k).1 = n ^ k.toNat ∧ n ^ k.toNat ≤ 4096 ∧ 0 ≤ n ^ k.toNat := by
  obtain ⟨g1, g2, g3, g4, g5⟩ := powerR_ok h
  have e := powGo_eq g1 k.toNat 1 (by omega) (by omega) g5
  rw [Int.one_mul] at e
  refine ⟨?_, e.2, Int.pow_nonneg (by omega)⟩
  unfold powerR at h ⊢
  rw [if_neg (by omega)] at h ⊢
  rw [if_neg (by omega)]
  exact e.1
theorem tup_mem {n ar : Int} : ∀ (l : List (List Int)) (p : Option (List Int)), tupGo n ar p l = true → ∀ t ∈ l, (t.length : Int) = ar ∧ elemsB n t = true
  | [], p, h, t, ht => by cases ht
  | q :: l, p, h, t, ht => by
    rw [tupGo_cons] at h
    simp only [Bool.and_eq_true, decide_eq_true_eq] at h
    rcases List.mem_cons.1 ht with rfl | ht
    · exact ⟨h.1.1.1, h.1.1.2⟩
    · exact tup_mem l _ h.2 t ht
theorem rankGo_bd {n : Int} (hn : 1 ≤ n) : ∀ (l : List Int) (r : Int) (i : Nat), (∀ x ∈ l, 0 ≤ x ∧ x < n) → 0 ≤ r → r < n ^ i → 0 ≤ rankGo n l r ∧ rankGo n l r < n ^ (i + l.length)
  | [], r, i, _, h0, h1 => ⟨h0, by simpa [rankGo] using h1⟩
  | x :: l, r, i, hl, h0, h1 => by
    have hb := hl x (by simp)
    have h2 : 0 ≤ r * n := Int.mul_nonneg h0 (by omega)
    have h3 : r * n + n ≤ n ^ (i + 1) := by
      rw [Int.pow_succ]
      have := Int.mul_le_mul_of_nonneg_right (show r + 1 ≤ n ^ i by omega) (show 0 ≤ n by omega)
      rw [Int.add_mul] at this; omega
    have := rankGo_bd hn l (r * n + x) (i + 1) (fun y hy => hl y (by simp [hy])) (by omega) (by omega)
    rw [rankGo, show i + (x :: l).length = i + 1 + l.length by simp; omega]
    exact this
theorem rank_bd {n : Int} {r : GRel} (h1 : 1 ≤ n) (h2 : n ≤ 64) (h : relB n r = true) {t : List Int} (ht : t ∈ r.Tuples) : 0 ≤ (rankR n t).1 ∧ (rankR n t).1 < n ^ r.Arity.toNat := by
  have hp := rel_power h1 h2 h
  simp only [relB, Bool.and_eq_true, decide_eq_true_eq] at h
  obtain ⟨g1, g2⟩ := tup_mem _ _ h.2 t ht
  have g3 := rankGo_bd h1 t 0 0 (elems_mem g2) (by omega) (by simp)
  have g4 : rankR n t = (rankGo n t 0, 0) := by
    unfold rankR
    rw [g1, if_pos hp.1, if_pos g2]
  rw [g4]
  rw [Nat.zero_add, show t.length = r.Arity.toNat by omega] at g3
  exact g3
theorem tabGo_len (n : Int) : ∀ (l : List (List Int)) (xs : List Bool), (tabGo n l xs).length = xs.length
  | [], xs => rfl
  | t :: l, xs => by rw [tabGo, tabGo_len n l]; simp

theorem setA_new {α : Type} : ∀ {A : List (ByteArray × α)} {k : ByteArray} {v : α}, k ∉ A.map (·.1) → setA A k v = A ++ [(k, v)]
  | [], k, v, _ => rfl
  | (k', w) :: A, k, v, h => by
    simp only [List.map_cons, List.mem_cons, not_or] at h
    rw [setA, if_neg h.1, setA_new h.2]; rfl
def Blk.add (B : Blk) (k : ByteArray) (nb : Nat) (g : MG) : Blk := { B with names := B.names ++ [k], bk := fun x => if x = k then nb else B.bk x, gl := g }
theorem ah_new (E : Env) (B : Blk) (m : MS) (X : AH) {k : ByteArray} (hk : k ∉ B.names) (nb : Nat) (xs : List Bool) (n : Nat) (hn : n = xs.length) (ys : List AV) (hys : ys = xs.map bav) :
    (Own.row nb ys :: Own.map B.lb (mset (kvW oslv (relA B m)) (.str k) (.osl nb n n)) (gset (kvW oslv (relA B m)) B.gl (.str k)) :: (X ++ (Own.box B.mb (m.box E B) :: .row B.fb (m.flags.map bav) :: .row B.rb (m.regs.map iav) :: .map B.ub runKV B.gu :: B.names.map fun k => .row (B.bk k) ((m.rels k).map bav)))).Perm
      (X ++ ({ m with rels := upd m.rels k xs } : MS).ah E (B.add k nb (gset (kvW oslv (relA B m)) B.gl (.str k)))) := by
  subst hys
  have e1 : mset (kvW oslv (relA B m)) (.str k) (.osl nb n n) = kvW oslv (relA (B.add k nb (gset (kvW oslv (relA B m)) B.gl (.str k))) { m with rels := upd m.rels k xs }) := by
    have : mset (kvW oslv (relA B m)) (.str k) (oslv (nb, n)) = kvW oslv (setA (relA B m) k (nb, n)) := mset_kvW _
    refine this.trans ?_
    rw [setA_new (by unfold relA; simpa using hk)]
    congr 1
    unfold relA Blk.add
    simp only [List.map_append, List.map_cons, List.map_nil, upd_same, if_pos, hn]
    congr 1
    refine List.map_congr_left fun a ha => ?_
    have hak : a ≠ k := fun e => hk (e ▸ ha)
    simp [upd_ne _ _ hak, hak]
  have e2 : (B.add k nb (gset (kvW oslv (relA B m)) B.gl (.str k))).names.map (fun a => Own.row ((B.add k nb (gset (kvW oslv (relA B m)) B.gl (.str k))).bk a) ((upd m.rels k xs a).map bav)) = (B.names.map fun k => Own.row (B.bk k) ((m.rels k).map bav)) ++ [Own.row nb (xs.map bav)] := by
    unfold Blk.add
    simp only [List.map_append, List.map_cons, List.map_nil, upd_same, if_pos]
    congr 1
    refine List.map_congr_left fun a ha => ?_
    have hak : a ≠ k := fun e => hk (e ▸ ha)
    simp [upd_ne _ _ hak, hak]
  have e3 : ({ m with rels := upd m.rels k xs } : MS).ah E (B.add k nb (gset (kvW oslv (relA B m)) B.gl (.str k))) = Own.box B.mb (m.box E B) :: .row B.fb (m.flags.map bav) :: .row B.rb (m.regs.map iav) :: .map B.lb (mset (kvW oslv (relA B m)) (.str k) (.osl nb n n)) (gset (kvW oslv (relA B m)) B.gl (.str k)) :: .map B.ub runKV B.gu :: ((B.names.map fun k => Own.row (B.bk k) ((m.rels k).map bav)) ++ [Own.row nb (xs.map bav)]) := by
    rw [← e2, e1]; rfl
  rw [e3]
  generalize Own.row nb (xs.map bav) = rw
  generalize Own.map B.lb (mset (kvW oslv (relA B m)) (.str k) (.osl nb n n)) (gset (kvW oslv (relA B m)) B.gl (.str k)) = mp
  generalize (B.names.map fun k => Own.row (B.bk k) ((m.rels k).map bav)) = Rs
  generalize Own.box B.mb (m.box E B) = x1
  generalize Own.row B.fb (m.flags.map bav) = x2
  generalize Own.row B.rb (m.regs.map iav) = x3
  generalize Own.map B.ub runKV B.gu = x4
  refine (List.perm_append_singleton rw (mp :: (X ++ (x1 :: x2 :: x3 :: x4 :: Rs)))).symm.trans ?_
  refine (List.Perm.append_right [rw] (show (mp :: (X ++ (x1 :: x2 :: x3 :: x4 :: Rs))).Perm ((X ++ [x1, x2, x3]) ++ mp :: (x4 :: Rs)) from ?_)).trans ?_
  · have := (List.perm_middle (a := mp) (l₁ := X ++ [x1, x2, x3]) (l₂ := x4 :: Rs)).symm
    simpa using this
  · simp
end Go.Proofs.Ytdedkpfbfklgbaa
