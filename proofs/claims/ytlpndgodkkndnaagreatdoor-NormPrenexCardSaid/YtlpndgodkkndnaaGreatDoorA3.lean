/- Contracts of the functions, part 3. -/
import Derived.Test.YtlpndgodkkndnaaGreatDoorA2
import Derived.Test.YtlpndgodkkndnaaGreatDoorA2
import Derived.Test.YtlpndgodkkndnaaGreatDoorS2
import Derived.Test.YtlpndgodkkndnaaGreatDoorS3
import Derived.Test.YtlpndgodkkndnaaGreatDoorA1
namespace Go.Proofs.YtlpndgodkkndnaaGreatDoor
open Go.RowKit Go.SX
set_option maxRecDepth 100000
set_option maxHeartbeats 4000000
set_option linter.unusedVariables false
set_option linter.unusedSimpArgs false
def plN (l : List ByteArray) (s : ByteArray) : Nat → Int
 | 0 => -1
 | i + 1 => if l[i]? = some s then (i : Int) else plN l s i
def plc (l : List ByteArray) (s : ByteArray) : Int := plN l s l.length
theorem bdL_app : ∀ a b : List GFml, bdL (a ++ b) = bdL a ++ bdL b
 | [], b => by rw [List.nil_append, bdL]; rfl
 | x :: a, b => by rw [List.cons_append, bdL, bdL, bdL_app a b, List.append_assoc]
theorem ref_Bound : ∀ (N : Nat) (f : GFml), ndF f ≤ N → f.Ok → (bdF f).length ≤ 1000000 → Tri Tryz.prog 32 [f.st] [] (D (strs (bdF f)) []) := by
 intro N
 induction N using Nat.strongRecOn with
 | _ N ih =>
  intro f hN ho hlen
  have hnd := ndF_eq f
  obtain ⟨⟨_, _, _, q4, q5⟩, q6, q7⟩ := ho
  have l4 := q4.1
  obtain ⟨k, ar, nm, vars, args, kids⟩ := f
  rw [bdF] at hlen ⊢
  rw [lA] at hlen
  simp only at *
  refine Tri.enter 25 Tryz.func32 rfl rfl rfl rfl fun Fr w0 => ?_
  repeat' (first | (refine AW.r 0 ?_; (refine AL.d (AOp.box_ro (v := .st [.int .i64 k, .int .i64 ar, .str nm, strs vars, strs args, .sl (kids.map GFml.av)]) rfl rfl) ?_) <;> refine AL.es 1 ?_ <;> refine AL.nil ?_) | refine AW.go ?_ | fail)
  repeat' (first | (refine AW.r 1 ?_; refine AL.lit_own (e := 9) (sz := 1) (by kernel_rfl) rfl rfl rfl P_nil (by decide) rfl fun b0 => ?_; refine AL.es 2 ?_; refine AL.append (i := 0) (e := 9) (sz := 1) (bytes := 16) rfl rfl rfl rfl (by kernel_rfl) (by kernel_rfl) (by repeat' (exact P_nil)) (by repeat' (exact P_map fun _ => rfl)) (ok_all (by repeat' (exact P_map fun _ => rfl))) (by (try simp only [lA, lM, List.length_take, List.length_drop, List.length_cons, List.length_nil, List.length_replicate]); omega) (by (try simp only [lA, lM, List.length_take, List.length_drop, List.length_cons, List.length_nil, List.length_replicate]); omega) rfl fun b' c' => ?_ <;> refine AL.es 1 ?_ <;> refine AL.nil ?_) | refine AW.re 2 1 ?_ | refine AW.go ?_ | fail)
  refine AW.prune [1, 3, 4] (AW.loop (fun mz af h => ∃ (i : Nat) (o : List ByteArray) (tt : Option Nat) (cc : Nat), i ≤ kids.length ∧ mz = kids.length - i ∧ af = [(1, .at (.st [.int .i64 k, .int .i64 ar, .str nm, strs vars, strs args, .sl (kids.map GFml.av)])), (3, .slt (o.map AV.str) tt cc), (4, .int .i64 i)] ∧ h = [.tail tt (o.map AV.str).length cc 1] ∧ o = vars ++ bdL (kids.take i)) kids.length ⟨0, vars, b', c', Nat.zero_le _, rfl, rfl, rfl, by simp [bdL]⟩ ?_)
  rintro mz af h ⟨i, o, tt, cc, hi, rfl, rfl, rfl, he⟩
  refine AW.seq ?_
  by_cases hlt : i < kids.length
  ·obtain ⟨x, hx⟩ := get_lt hlt
   have hx' : (kids.map GFml.av)[((i : Nat) : Int).toNat]? = some (x.st) := GFml.get hx
   have hxm := lG hx
   have hnx := ndFs_mem hxm
   have htk : bdL (kids.take (i + 1)) = bdL (kids.take i) ++ bdF x := by rw [List.take_add_one, hx, bdL_app]; simp [bdL]
   have hle : (bdL kids).length = (bdL (kids.take (i + 1))).length + (bdL (kids.drop (i + 1))).length := by rw [← lA, ← bdL_app, List.take_append_drop]
   rw [htk, lA] at hle
   have hc := ih (ndF x) (by omega) x (Nat.le_refl _) (q7 x hxm) (by omega)
   have hol : o.length + (bdF x).length ≤ 1000000 := by rw [he, lA]; omega
   generalize bdF x = bx at *
   repeat' (first | refine AW.re 3 5 ?_ | refine AW.jj (fun hb => ?_) (fun hb => ?_) | refine AW.go ?_ | fail)
   all_goals try (exfalso; simp only [dT, dF, lM] at *; omega)
   repeat' (first | (refine xS 5 4 ?_; refine AL.d (iX hx') ?_; refine AL.es 1 ?_; refine AL.d (AOp.call rfl rfl (hc.pure _)) ?_; refine AL.append (i := 0) (e := 9) (sz := 1) (bytes := 16) rfl rfl rfl rfl (by kernel_rfl) (by kernel_rfl) (by repeat' (exact P_map fun _ => rfl)) (by repeat' (exact P_map fun _ => rfl)) (ok_all (by repeat' (exact P_map fun _ => rfl))) (by (try simp only [lA, lM, List.length_take, List.length_drop, List.length_cons, List.length_nil, List.length_replicate]); omega) (by (try simp only [lA, lM, List.length_take, List.length_drop, List.length_cons, List.length_nil, List.length_replicate]); omega) rfl fun b' c' => ?_ <;> refine AL.es 1 ?_ <;> refine AL.nil ?_) | (refine xS 4 1 ?_; refine AL.d AOp.ad ?_; refine xN 1 ?_) | fail)
   refine AW.frame_eq rfl (show _ = [Own.tail b' ((o ++ bx).map AV.str).length c' 1] from by rw [List.map_append]; rfl) ?_
   have hm : o.map AV.str ++ bx.map AV.str = (o ++ bx).map AV.str := by rw [List.map_append]
   rw [hm]
   refine AW.again_keep (kids.length - (i + 1)) [1, 3, 4] (by omega) ⟨i + 1, o ++ bx, b', c', hlt, rfl, rfl, rfl, ?_⟩
   rw [he, htk, List.append_assoc]
  ·have ho2 : o = vars ++ bdL kids := by rw [he, List.take_of_length_le (by omega)]
   subst ho2
   repeat' (first | refine AW.re 3 5 ?_ | refine AW.jj (fun hb => ?_) (fun hb => ?_) | refine AW.go ?_ | fail)
   all_goals try (exfalso; simp only [dT, dF, lM] at *; omega)
   refine AW.as_sl 3 rfl ?_
   repeat' (first | refine AW.re 6 2 ?_ | fail)
   exact AW.ret_drop rfl (List.nil_sublist _) ⟨rfl, rfl⟩
def lessB (s t : ByteArray) : Bool := Op.bytesLess s.toList t.toList
def risP : List ByteArray → ByteArray → List ByteArray
 | [], s => [s]
 | x :: l, s => if lessB x s = true then x :: risP l s else if x = s then x :: l else s :: x :: l
theorem risP_len : ∀ (l : List ByteArray) (s : ByteArray), (risP l s).length ≤ l.length + 1
 | [], s => by simp [risP]
 | x :: l, s => by
  have := risP_len l s
  rw [risP]; split
  ·simp; omega
  ·split <;> simp
theorem risP_mem : ∀ (l : List ByteArray) (s x : ByteArray), x ∈ risP l s ↔ x = s ∨ x ∈ l
 | [], s, x => by simp [risP]
 | y :: l, s, x => by
  have := risP_mem l s x
  rw [risP]; split
  ·simp only [List.mem_cons, this]; constructor
   ·rintro (h | h | h) <;> simp [h]
   ·rintro (h | h | h) <;> simp [h]
  ·split
   ·rename_i h; subst h; simp
   ·simp
theorem str_sz (l : List ByteArray) : ∀ x ∈ l.map AV.str, x.size = 1 := all_map fun _ => rfl
theorem ref_sorted (l : List ByteArray) (s : ByteArray) (hl : l.length ≤ 1000000) : Tri Tryz.prog 61 [strs l, .str s] [] (D (strs (risP l s)) []) := by
 refine Tri.enter 45 Tryz.func61 rfl rfl rfl rfl fun Fr w0 => ?_
 repeat' (first | refine AW.re 0 1 ?_ | refine AW.re 1 1 ?_ | refine AW.go ?_ | fail)
 refine AW.prune [0, 1, 5] (AW.loop (fun mz af h => ∃ (i : Nat), i ≤ l.length ∧ mz = l.length - i ∧ af = [(0, strs l), (1, .str s), (5, .int .i64 i)] ∧ h = [] ∧ risP l s = l.take i ++ risP (l.drop i) s) l.length ⟨0, Nat.zero_le _, rfl, rfl, rfl, rfl⟩ ?_)
 rintro mz af h ⟨i, hi, rfl, rfl, rfl, he⟩
 refine AW.seq ?_
 by_cases hlt : i < l.length
 ·obtain ⟨x, hx⟩ := get_lt hlt
  have hx' : (l.map AV.str)[((i : Nat) : Int).toNat]? = some (.str x) := map_get hx
  have htk : l.take (i + 1) = l.take i ++ [x] := by rw [List.take_add_one, hx]; rfl
  rw [drop_cons hx, risP] at he
  change risP l s = l.take i ++ if Op.bytesLess x.toList s.toList = true then x :: risP (l.drop (i + 1)) s else if x = s then x :: l.drop (i + 1) else s :: x :: l.drop (i + 1) at he
  cases hlb : Op.bytesLess x.toList s.toList with
  | true =>
   rw [hlb] at he
   repeat' (first | (refine xS 2 5 ?_; ((refine AL.gx (fun hb => ?_) (fun hb => ?_) <;> refine AL.es 2 ?_)) <;> (first | (refine AL.gd ?_; refine AL.d (iX hx') ?_) | refine AL.gs ?_) <;> refine AL.es 4 ?_ <;> refine AL.nil ?_) | (refine xS 3 1 ?_; refine AL.d AOp.ad ?_; refine xN 1 ?_) | refine AW.jf ?_ | refine AW.jj (fun hb => ?_) (fun hb => ?_) | refine AW.go ?_ | fail)
   all_goals try (exfalso; simp only [dT, dF, lM] at *; omega)
   all_goals try (rw [hlb] at hb; cases hb; done)
   refine AW.again_keep (l.length - (i + 1)) [0, 1, 5] (by omega) ⟨i + 1, hlt, rfl, rfl, rfl, ?_⟩
   rw [he, if_pos rfl, htk]; simp
  | false =>
   rw [hlb] at he
   repeat' (first | (refine xS 2 5 ?_; ((refine AL.gx (fun hb => ?_) (fun hb => ?_) <;> refine AL.es 2 ?_)) <;> (first | (refine AL.gd ?_; refine AL.d (iX hx') ?_) | refine AL.gs ?_) <;> refine AL.es 4 ?_ <;> refine AL.nil ?_) | (refine xS 4 5 ?_; ((refine AL.gx (fun hb => ?_) (fun hb => ?_) <;> refine AL.es 2 ?_)) <;> (first | (refine AL.gd ?_; refine AL.d (iX hx') ?_) | refine AL.gs ?_) <;> refine AL.es 4 ?_ <;> refine AL.nil ?_) | refine AW.re 5 2 ?_ | refine AW.jf ?_ | refine AW.jj (fun hb => ?_) (fun hb => ?_) | refine AW.go ?_ | fail)
   all_goals try (exfalso; simp only [dT, dF, lM] at *; omega)
   all_goals try (rw [hlb] at hb; cases hb; done)
   ·rw [toList_beq, dT] at hb
    rw [if_neg (by simp), if_pos hb, ← drop_cons hx, List.take_append_drop] at he
    exact AW.retv rfl ⟨by rw [he], rfl⟩
   ·rw [toList_beq, dF] at hb
    rw [if_neg (by simp), if_neg hb] at he
    repeat' (first | (refine AW.ex 6 [] [0, 4, 7, 11, 12] ?_; refine AQE.hl ?_; refine AQE.e ?_; refine AQE.e ?_; ((refine AQE.p rfl (AOp.cut (sz := 1) rfl rfl (by kernel_rfl) (str_sz _) bndIs.none (bndIs.some (n := i) rfl (by omega)) (by omega) (by simp; omega)) ?_)) <;> refine AQE.hl ?_ <;> refine AQE.e ?_ <;> refine AQE.p rfl (AOp.lit (e := 9) (sz := 1) (by kernel_rfl) rfl rfl rfl (P_one rfl) (by decide)) ?_ <;> refine AQE.hl ?_ <;> refine AQE.e ?_ <;> refine AQE.e ?_ <;> ((refine AQE.p rfl (AOp.cut (sz := 1) rfl rfl (by kernel_rfl) (str_sz _) (bndIs.some (n := i) rfl (by omega)) bndIs.none (by simp; omega) (by omega)) ?_)) <;> refine AQE.hl ?_ <;> refine AQE.hl ?_ <;> refine AQE.nil ?_ <;> refine AX.o (n := 4) 0 ?_ <;> (refine AXO.lit_own (e := 9) (sz := 1) (by kernel_rfl) rfl rfl rfl P_nil (by decide) fun b0 => ?_) <;> try dsimp only [sA, sB, sC, sD] <;> refine AX.o (n := 3) 4 ?_ <;> refine AXO.append (i := 0) (e := 9) (sz := 1) (bytes := 16) rfl rfl rfl rfl (by kernel_rfl) (by kernel_rfl) (by repeat' (exact P_nil)) (by repeat' (first | refine P_take ?_ | exact P_map fun _ => rfl)) (ok_all (by repeat' (first | refine P_take ?_ | exact P_map fun _ => rfl))) (by (try simp only [lA, lM, List.length_take, List.length_drop, List.length_cons, List.length_nil, List.length_replicate]); omega) (by (try simp only [lA, lM, List.length_take, List.length_drop, List.length_cons, List.length_nil, List.length_replicate]); omega) rfl fun b' c' => ?_ <;> try dsimp only [sA, sB, sC, sD] <;> refine AX.o (n := 2) 7 ?_ <;> refine AXO.append (i := 0) (e := 9) (sz := 1) (bytes := 16) rfl rfl rfl rfl (by kernel_rfl) (by kernel_rfl) (by repeat' (first | exact P_nil | refine P_app ?_ ?_ | refine P_take ?_ | exact P_map fun _ => rfl)) (by repeat' (exact P_one rfl)) (ok_all (by repeat' (exact P_one rfl))) (by (try simp only [lA, lM, List.length_take, List.length_drop, List.length_cons, List.length_nil, List.length_replicate]); omega) (by (try simp only [lA, lM, List.length_take, List.length_drop, List.length_cons, List.length_nil, List.length_replicate]); omega) rfl fun b' c' => ?_ <;> try dsimp only [sA, sB, sC, sD] <;> refine AX.o (n := 1) 11 ?_ <;> refine AXO.append (i := 0) (e := 9) (sz := 1) (bytes := 16) rfl rfl rfl rfl (by kernel_rfl) (by kernel_rfl) (by repeat' (first | exact P_nil | refine P_app ?_ ?_ | refine P_take ?_ | exact P_map fun _ => rfl | exact P_one rfl)) (by repeat' (first | refine P_take ?_ | refine P_drop ?_ | exact P_map fun _ => rfl)) (ok_all (by repeat' (first | refine P_take ?_ | refine P_drop ?_ | exact P_map fun _ => rfl))) (by (try simp only [lA, lM, List.length_take, List.length_drop, List.length_cons, List.length_nil, List.length_replicate]); omega) (by (try simp only [lA, lM, List.length_take, List.length_drop, List.length_cons, List.length_nil, List.length_replicate]); omega) rfl fun b' c' => ?_ <;> try dsimp only [sA, sB, sC, sD] <;> refine AX.o (n := 0) 12 ?_ <;> refine AXO.e ?_ <;> try dsimp only [sA, sB, sC, sD] <;> refine AX.done_keep [0, 1, 4, 5, 6, 7, 8, 9, 10, 11, 12, 13, 14, 15, 16, 17, 18, 19, 20, 21, 22, 23, 24, 25, 26, 27, 28, 29, 30, 31, 32] ?_) | fail)
    refine AW.as_sl 4 rfl ?_
    refine AW.ret_drop rfl (List.nil_sublist _) ⟨?_, rfl⟩
    rw [he]
    show AEnd.ret (AV.sl _) = AEnd.ret (AV.sl _)
    congr 2
    rw [← drop_cons hx, List.take_of_length_le (show (l.map AV.str).length ≤ (l.map AV.str).length from Nat.le_refl _)]
    simp [List.map_take, List.map_drop]
 ·rw [List.drop_eq_nil_of_le (by omega), risP] at he
  repeat' (first | (refine xS 2 5 ?_; ((refine AL.gx (fun hb => ?_) (fun hb => ?_) <;> refine AL.es 2 ?_)) <;> (first | (refine AL.gd ?_; (exfalso; simp only [dT, dF, lM, bne_iff_ne, ne_eq, bne_eq_false_iff_eq, beq_iff_eq, beq_eq_false_iff_ne] at *; omega)) | refine AL.gs ?_) <;> refine AL.es 4 ?_ <;> refine AL.nil ?_) | (refine xS 4 5 ?_; ((refine AL.gx (fun hb => ?_) (fun hb => ?_) <;> refine AL.es 2 ?_)) <;> (first | (refine AL.gd ?_; (exfalso; simp only [dT, dF, lM, bne_iff_ne, ne_eq, bne_eq_false_iff_eq, beq_iff_eq, beq_eq_false_iff_ne] at *; omega)) | refine AL.gs ?_) <;> refine AL.es 4 ?_ <;> refine AL.nil ?_) | refine AW.jf ?_ | refine AW.go ?_ | fail)
  all_goals try (exfalso; simp only [dT, dF, lM] at *; omega)
  repeat' (first | (refine AW.ex 6 [] [0, 4, 7, 11, 12] ?_; refine AQE.hl ?_; refine AQE.e ?_; refine AQE.e ?_; ((refine AQE.p rfl (AOp.cut (sz := 1) rfl rfl (by kernel_rfl) (str_sz _) bndIs.none (bndIs.some (n := i) rfl (by omega)) (by omega) (by simp; omega)) ?_)) <;> refine AQE.hl ?_ <;> refine AQE.e ?_ <;> refine AQE.p rfl (AOp.lit (e := 9) (sz := 1) (by kernel_rfl) rfl rfl rfl (P_one rfl) (by decide)) ?_ <;> refine AQE.hl ?_ <;> refine AQE.e ?_ <;> refine AQE.e ?_ <;> ((refine AQE.p rfl (AOp.cut (sz := 1) rfl rfl (by kernel_rfl) (str_sz _) (bndIs.some (n := i) rfl (by omega)) bndIs.none (by simp; omega) (by omega)) ?_)) <;> refine AQE.hl ?_ <;> refine AQE.hl ?_ <;> refine AQE.nil ?_ <;> refine AX.o (n := 4) 0 ?_ <;> (refine AXO.lit_own (e := 9) (sz := 1) (by kernel_rfl) rfl rfl rfl P_nil (by decide) fun b0 => ?_) <;> try dsimp only [sA, sB, sC, sD] <;> refine AX.o (n := 3) 4 ?_ <;> refine AXO.append (i := 0) (e := 9) (sz := 1) (bytes := 16) rfl rfl rfl rfl (by kernel_rfl) (by kernel_rfl) (by repeat' (exact P_nil)) (by repeat' (first | refine P_take ?_ | exact P_map fun _ => rfl)) (ok_all (by repeat' (first | refine P_take ?_ | exact P_map fun _ => rfl))) (by (try simp only [lA, lM, List.length_take, List.length_drop, List.length_cons, List.length_nil, List.length_replicate]); omega) (by (try simp only [lA, lM, List.length_take, List.length_drop, List.length_cons, List.length_nil, List.length_replicate]); omega) rfl fun b' c' => ?_ <;> try dsimp only [sA, sB, sC, sD] <;> refine AX.o (n := 2) 7 ?_ <;> refine AXO.append (i := 0) (e := 9) (sz := 1) (bytes := 16) rfl rfl rfl rfl (by kernel_rfl) (by kernel_rfl) (by repeat' (first | exact P_nil | refine P_app ?_ ?_ | refine P_take ?_ | exact P_map fun _ => rfl)) (by repeat' (exact P_one rfl)) (ok_all (by repeat' (exact P_one rfl))) (by (try simp only [lA, lM, List.length_take, List.length_drop, List.length_cons, List.length_nil, List.length_replicate]); omega) (by (try simp only [lA, lM, List.length_take, List.length_drop, List.length_cons, List.length_nil, List.length_replicate]); omega) rfl fun b' c' => ?_ <;> try dsimp only [sA, sB, sC, sD] <;> refine AX.o (n := 1) 11 ?_ <;> refine AXO.append (i := 0) (e := 9) (sz := 1) (bytes := 16) rfl rfl rfl rfl (by kernel_rfl) (by kernel_rfl) (by repeat' (first | exact P_nil | refine P_app ?_ ?_ | refine P_take ?_ | exact P_map fun _ => rfl | exact P_one rfl)) (by repeat' (first | refine P_take ?_ | refine P_drop ?_ | exact P_map fun _ => rfl)) (ok_all (by repeat' (first | refine P_take ?_ | refine P_drop ?_ | exact P_map fun _ => rfl))) (by (try simp only [lA, lM, List.length_take, List.length_drop, List.length_cons, List.length_nil, List.length_replicate]); omega) (by (try simp only [lA, lM, List.length_take, List.length_drop, List.length_cons, List.length_nil, List.length_replicate]); omega) rfl fun b' c' => ?_ <;> try dsimp only [sA, sB, sC, sD] <;> refine AX.o (n := 0) 12 ?_ <;> refine AXO.e ?_ <;> try dsimp only [sA, sB, sC, sD] <;> refine AX.done_keep [0, 1, 4, 5, 6, 7, 8, 9, 10, 11, 12, 13, 14, 15, 16, 17, 18, 19, 20, 21, 22, 23, 24, 25, 26, 27, 28, 29, 30, 31, 32] ?_) | fail)
  refine AW.as_sl 4 rfl ?_
  refine AW.ret_drop rfl (List.nil_sublist _) ⟨?_, rfl⟩
  rw [he]
  show AEnd.ret (AV.sl _) = AEnd.ret (AV.sl _)
  congr 2
  have : i = l.length := by omega
  subst this
  simp [List.take_of_length_le]
mutual
def frF : GFml → List ByteArray
 | ⟨_, _, _, vars, args, kids⟩ => frA args (frLs vars kids [])
def frLs : List ByteArray → List GFml → List ByteArray → List ByteArray
 | _, [], out => out
 | vars, x :: l, out => frLs vars l (frV vars (frF x) out)
def frV : List ByteArray → List ByteArray → List ByteArray → List ByteArray
 | _, [], out => out
 | vars, v :: l, out => frV vars l (bif has vars v then out else risP out v)
def frA : List ByteArray → List ByteArray → List ByteArray
 | [], out => out
 | v :: l, out => frA l (risP out v)
end
mutual
def agF : GFml → List ByteArray
 | ⟨_, _, _, _, args, kids⟩ => args ++ agL kids
def agL : List GFml → List ByteArray
 | [] => []
 | x :: l => agF x ++ agL l
end
theorem frV_len (vars : List ByteArray) : ∀ l out : List ByteArray, (frV vars l out).length ≤ out.length + l.length
 | [], out => by rw [frV]; simp
 | v :: l, out => by
  have h1 := frV_len vars l (bif has vars v then out else risP out v)
  have h2 := risP_len out v
  rw [frV, List.length_cons]
  cases hv : has vars v with
  | true => rw [hv] at h1; simp only [cond_true] at h1 ⊢; omega
  | false => rw [hv] at h1; simp only [cond_false] at h1 ⊢; omega
theorem frA_len : ∀ l out : List ByteArray, (frA l out).length ≤ out.length + l.length
 | [], out => by rw [frA]; simp
 | v :: l, out => by
  have h1 := frA_len l (risP out v)
  have h2 := risP_len out v
  rw [frA, List.length_cons]; omega
mutual
theorem frF_len : ∀ f : GFml, (frF f).length ≤ (agF f).length
 | ⟨k, ar, nm, vars, args, kids⟩ => by
  have h1 := frLs_len vars kids []
  have h2 := frA_len args (frLs vars kids [])
  rw [frF, agF, lA]
  rw [List.length_nil] at h1; omega
theorem frLs_len (vars : List ByteArray) : ∀ (l : List GFml) (out : List ByteArray), (frLs vars l out).length ≤ out.length + (agL l).length
 | [], out => by rw [frLs]; omega
 | x :: l, out => by
  have h0 := frF_len x
  have h1 := frV_len vars (frF x) out
  have h2 := frLs_len vars l (frV vars (frF x) out)
  rw [frLs, agL, lA]; omega
end
theorem frV_mem (vars : List ByteArray) : ∀ (l out : List ByteArray) (x : ByteArray), x ∈ frV vars l out → x ∈ l ∨ x ∈ out
 | [], out, x, h => by rw [frV] at h; exact .inr h
 | v :: l, out, x, h => by
  rw [frV] at h
  rcases frV_mem vars l _ x h with h | h
  ·exact .inl (List.mem_cons_of_mem _ h)
  ·cases hv : has vars v with
   | true => rw [hv] at h; exact .inr h
   | false =>
    rw [hv, cond_false, risP_mem] at h
    rcases h with h | h
    ·exact .inl (by rw [h]; exact List.mem_cons_self ..)
    ·exact .inr h
theorem frA_mem : ∀ (l out : List ByteArray) (x : ByteArray), x ∈ frA l out → x ∈ l ∨ x ∈ out
 | [], out, x, h => by rw [frA] at h; exact .inr h
 | v :: l, out, x, h => by
  rw [frA] at h
  rcases frA_mem l _ x h with h | h
  ·exact .inl (List.mem_cons_of_mem _ h)
  ·rcases (risP_mem _ _ _).1 h with h | h
   ·exact .inl (by rw [h]; exact List.mem_cons_self ..)
   ·exact .inr h
mutual
theorem frF_mem : ∀ (f : GFml) (x : ByteArray), x ∈ frF f → x ∈ agF f
 | ⟨k, ar, nm, vars, args, kids⟩, x, h => by
  rw [frF] at h
  rw [agF, List.mem_append]
  rcases frA_mem _ _ _ h with h | h
  ·exact .inl h
  ·rcases frLs_mem vars kids [] x h with h | h
   ·exact .inr h
   ·cases h
theorem frLs_mem (vars : List ByteArray) : ∀ (l : List GFml) (out : List ByteArray) (x : ByteArray), x ∈ frLs vars l out → x ∈ agL l ∨ x ∈ out
 | [], out, x, h => by rw [frLs] at h; exact .inr h
 | y :: l, out, x, h => by
  rw [frLs] at h
  rw [agL, List.mem_append]
  rcases frLs_mem vars l _ x h with h | h
  ·exact .inl (.inr h)
  ·rcases frV_mem vars _ _ x h with h | h
   ·exact .inl (.inl (frF_mem y x h))
   ·exact .inr h
end
theorem agL_app : ∀ a b : List GFml, agL (a ++ b) = agL a ++ agL b
 | [], b => by rw [List.nil_append, agL]; rfl
 | x :: a, b => by rw [List.cons_append, agL, agL, agL_app a b, List.append_assoc]
theorem ref_Free : ∀ (N : Nat) (f : GFml), ndF f ≤ N → f.Ok → (agF f).length ≤ 1000000 → Tri Tryz.prog 21 [f.st] [] (D (strs (frF f)) []) := by
 intro N
 induction N using Nat.strongRecOn with
 | _ N ih =>
  intro f hN ho hlen
  have hnd := ndF_eq f
  obtain ⟨⟨_, _, _, q4, q5⟩, q6, q7⟩ := ho
  have l4 := q4.1
  have l5 := q5.1
  obtain ⟨k, ar, nm, vars, args, kids⟩ := f
  rw [agF, lA] at hlen
  rw [frF]
  simp only at *
  refine Tri.enter 56 Tryz.func21 rfl rfl rfl rfl fun Fr w0 => ?_
  repeat' (first | (refine AW.r 0 ?_; (refine AL.d (AOp.box_ro (v := .st [.int .i64 k, .int .i64 ar, .str nm, strs vars, strs args, .sl (kids.map GFml.av)]) rfl rfl) ?_) <;> refine AL.es 1 ?_ <;> refine AL.nil ?_) | refine AW.re 1 1 ?_ | refine AW.re 2 1 ?_ | refine AW.go ?_ | fail)
  refine AW.prune [1, 3, 4] (AW.loop (fun mz af h => ∃ (i : Nat) (o : List ByteArray), i ≤ kids.length ∧ mz = kids.length - i ∧ af = [(1, .at (.st [.int .i64 k, .int .i64 ar, .str nm, strs vars, strs args, .sl (kids.map GFml.av)])), (3, strs o), (4, .int .i64 i)] ∧ h = [] ∧ (frLs vars kids [] = frLs vars (kids.drop i) o ∧ o.length ≤ (agL (kids.take i)).length)) kids.length ⟨0, [], Nat.zero_le _, rfl, rfl, rfl, ⟨rfl, by simp⟩⟩ ?_)
  rintro mz af h ⟨i, o, hi, rfl, rfl, rfl, he⟩
  refine AW.seq ?_
  by_cases hlt : i < kids.length
  ·obtain ⟨he, hol⟩ := he
   obtain ⟨x, hx⟩ := get_lt hlt
   have hx' : (kids.map GFml.av)[((i : Nat) : Int).toNat]? = some (x.st) := GFml.get hx
   have hxm := lG hx
   have hnx := ndFs_mem hxm
   have htk : agL (kids.take (i + 1)) = agL (kids.take i) ++ agF x := by rw [List.take_add_one, hx, agL_app]; simp [agL]
   have hle : (agL kids).length = (agL (kids.take (i + 1))).length + (agL (kids.drop (i + 1))).length := by rw [← lA, ← agL_app, List.take_append_drop]
   rw [htk, lA] at hle
   have hfl := frF_len x
   have hc := ih (ndF x) (by omega) x (Nat.le_refl _) (q7 x hxm) (by omega)
   rw [drop_cons hx, frLs] at he
   generalize frF x = fx at *
   repeat' (first | refine AW.re 3 5 ?_ | refine AW.jj (fun hb => ?_) (fun hb => ?_) | refine AW.go ?_ | fail)
   all_goals try (exfalso; simp only [dT, dF, lM] at *; omega)
   repeat' (first | (refine xS 5 3 ?_; refine AL.d (iX hx') ?_; refine AL.es 1 ?_; refine AL.d (AOp.call rfl rfl hc) ?_; refine xN 1 ?_) | refine AW.re 6 1 ?_ | refine AW.go ?_ | fail)
   obtain ⟨I0, hI0⟩ : ∃ j : Nat, j = i := ⟨i, rfl⟩
   subst hI0
   have hlt0 := hlt
   have he0 := he
   refine AW.prune [1, 3, 4, 5, 6] (AW.loop (fun mz af h => ∃ (i : Nat) (o2 : List ByteArray), i ≤ fx.length ∧ mz = fx.length - i ∧ af = [(1, .at (.st [.int .i64 k, .int .i64 ar, .str nm, strs vars, strs args, .sl (kids.map GFml.av)])), (3, strs o2), (4, .int .i64 I0), (5, strs fx), (6, .int .i64 i)] ∧ h = [] ∧ (frV vars fx o = frV vars (fx.drop i) o2 ∧ o2.length ≤ o.length + i)) fx.length ⟨0, o, Nat.zero_le _, rfl, rfl, rfl, ⟨rfl, by omega⟩⟩ ?_)
   rintro mz af h ⟨i, o2, hi, rfl, rfl, rfl, he⟩
   refine AW.seq ?_
   by_cases hlt : i < fx.length
   ·obtain ⟨he, hol2⟩ := he
    obtain ⟨v, hv⟩ := get_lt hlt
    have hv' : (fx.map AV.str)[((i : Nat) : Int).toNat]? = some (.str v) := map_get hv
    have hM := Among_has vars (by omega) v
    have hS := ref_sorted o2 v (by omega)
    have hsl := risP_len o2 v
    rw [drop_cons hv, frV] at he
    generalize risP o2 v = o3 at *
    cases hh : has vars v with
    | true =>
     rw [hh] at hM he
     repeat' (first | refine AW.re 7 4 ?_ | (refine AW.dq 9 ?_; refine AQ.es 4 ?_; refine AQ.p rfl (iX hv') ?_; refine AQ.es 1 ?_; refine AQ.p rfl (AOp.call rfl rfl hM) ?_; refine AQ.es 1 ?_; refine AQ.nil ?_) | (refine xS 8 1 ?_; refine AL.d AOp.ad ?_; refine xN 1 ?_) | refine AW.jf ?_ | refine AW.jj (fun hb => ?_) (fun hb => ?_) | refine AW.go ?_ | fail)
     all_goals try (exfalso; simp only [dT, dF, lM] at *; omega)
     refine AW.again_keep (fx.length - (i + 1)) [1, 3, 4, 5, 6] (by omega) ⟨i + 1, o2, hlt, rfl, rfl, rfl, ?_⟩
     exact ⟨he, by omega⟩
    | false =>
     rw [hh] at hM he
     repeat' (first | refine AW.re 7 4 ?_ | (refine AW.dq 9 ?_; refine AQ.es 4 ?_; refine AQ.p rfl (iX hv') ?_; refine AQ.es 1 ?_; refine AQ.p rfl (AOp.call rfl rfl hM) ?_; refine AQ.es 1 ?_; refine AQ.nil ?_) | (refine xS 10 3 ?_; refine AL.d (iX hv') ?_; refine AL.es 1 ?_; refine AL.d (AOp.call rfl rfl hS) ?_; refine xN 1 ?_) | (refine xS 8 1 ?_; refine AL.d AOp.ad ?_; refine xN 1 ?_) | refine AW.jt ?_ | refine AW.jj (fun hb => ?_) (fun hb => ?_) | refine AW.go ?_ | fail)
     all_goals try (exfalso; simp only [dT, dF, lM] at *; omega)
     refine AW.again_keep (fx.length - (i + 1)) [1, 3, 4, 5, 6] (by omega) ⟨i + 1, o3, hlt, rfl, rfl, rfl, ?_⟩
     exact ⟨he, by omega⟩
   ·obtain ⟨he, hol2⟩ := he
    rw [List.drop_eq_nil_of_le (by omega), frV] at he
    rw [he] at he0
    repeat' (first | refine AW.re 7 4 ?_ | refine AW.jj (fun hb => ?_) (fun hb => ?_) | refine AW.go ?_ | fail)
    all_goals try (exfalso; simp only [dT, dF, lM] at *; omega)
    repeat' (first | (refine xS 4 1 ?_; refine AL.d AOp.ad ?_; refine xN 1 ?_) | fail)
    exact AW.again_keep (kids.length - (I0 + 1)) [1, 3, 4] (by omega) ⟨I0 + 1, o2, hlt0, rfl, rfl, rfl, he0, by rw [htk, lA]; omega⟩
  ·obtain ⟨he, hol⟩ := he
   have hal : (agL (kids.take i)).length ≤ (agL kids).length := by
    have hle : (agL kids).length = (agL (kids.take i)).length + (agL (kids.drop i)).length := by rw [← lA, ← agL_app, List.take_append_drop]
    omega
   rw [List.drop_eq_nil_of_le (by omega), frLs] at he
   rw [he]
   repeat' (first | refine AW.re 3 5 ?_ | refine AW.re 11 1 ?_ | refine AW.jj (fun hb => ?_) (fun hb => ?_) | refine AW.go ?_ | fail)
   all_goals try (exfalso; simp only [dT, dF, lM] at *; omega)
   have hob : o.length ≤ (agL kids).length := by omega
   clear he hol hal hlt hi
   refine AW.prune [1, 3, 7] (AW.loop (fun mz af h => ∃ (i : Nat) (o2 : List ByteArray), i ≤ args.length ∧ mz = args.length - i ∧ af = [(1, .at (.st [.int .i64 k, .int .i64 ar, .str nm, strs vars, strs args, .sl (kids.map GFml.av)])), (3, strs o2), (7, .int .i64 i)] ∧ h = [] ∧ (frA args o = frA (args.drop i) o2 ∧ o2.length ≤ o.length + i)) args.length ⟨0, o, Nat.zero_le _, rfl, rfl, rfl, ⟨rfl, by omega⟩⟩ ?_)
   rintro mz af h ⟨i, o2, hi, rfl, rfl, rfl, he⟩
   refine AW.seq ?_
   by_cases hlt : i < args.length
   ·obtain ⟨he, hol2⟩ := he
    obtain ⟨v, hv⟩ := get_lt hlt
    have hv' : (args.map AV.str)[((i : Nat) : Int).toNat]? = some (.str v) := map_get hv
    have hS := ref_sorted o2 v (by omega)
    have hsl := risP_len o2 v
    rw [drop_cons hv, frA] at he
    generalize risP o2 v = o3 at *
    repeat' (first | refine AW.re 12 5 ?_ | (refine xS 14 4 ?_; refine AL.d (iX hv') ?_; refine AL.es 1 ?_; refine AL.d (AOp.call rfl rfl hS) ?_; refine xN 1 ?_) | (refine xS 13 1 ?_; refine AL.d AOp.ad ?_; refine xN 1 ?_) | refine AW.jj (fun hb => ?_) (fun hb => ?_) | refine AW.go ?_ | fail)
    all_goals try (exfalso; simp only [dT, dF, lM] at *; omega)
    refine AW.again_keep (args.length - (i + 1)) [1, 3, 7] (by omega) ⟨i + 1, o3, hlt, rfl, rfl, rfl, ?_⟩
    exact ⟨he, by omega⟩
   ·obtain ⟨he, hol2⟩ := he
    rw [List.drop_eq_nil_of_le (by omega), frA] at he
    rw [he]
    repeat' (first | refine AW.re 12 5 ?_ | refine AW.re 15 2 ?_ | refine AW.jj (fun hb => ?_) (fun hb => ?_) | refine AW.go ?_ | fail)
    all_goals try (exfalso; simp only [dT, dF, lM] at *; omega)
    exact AW.retv rfl ⟨rfl, rfl⟩
theorem plN_app (l r : List ByteArray) (s : ByteArray) : ∀ i, i ≤ l.length → plN (l ++ r) s i = plN l s i
 | 0, _ => rfl
 | i + 1, h => by rw [plN, plN, plN_app l r s i (by omega), List.getElem?_append_left (by omega)]
theorem plc_snoc (l : List ByteArray) (x s : ByteArray) : plc (l ++ [x]) s = if s = x then (l.length : Int) else plc l s := by
 rw [plc, lA, List.length_singleton, plN, plN_app l [x] s l.length (Nat.le_refl _)]
 have e : (l ++ [x])[l.length]? = some x := by simp
 rw [e]
 by_cases h : s = x
 ·rw [if_pos h, if_pos (by rw [h])]
 ·rw [if_neg h, if_neg (by intro e; exact h (Option.some.inj e).symm)]; rfl
def JJ (tk0 xs ys : List ByteArray) (σ : Sb) (tk : List ByteArray) : Prop := xs.length = ys.length ∧ ∀ v ∈ tk0, rnS σ v ∈ tk ∧ plc xs v = plc ys (rnS σ v) ∧ (plc xs v < 0 → rnS σ v = v)
theorem JJ.mono {tk0 xs ys tk tk' : List ByteArray} {σ : Sb} (h : JJ tk0 xs ys σ tk) (k : ∀ x ∈ tk, x ∈ tk') : JJ tk0 xs ys σ tk' := ⟨h.1, fun v hv => ⟨k _ (h.2 v hv).1, (h.2 v hv).2⟩⟩
theorem JJ.step {tk0 xs ys tk : List ByteArray} {σ : Sb} {v w : ByteArray} (h : JJ tk0 xs ys σ tk) (hw : w ∉ tk) : JJ tk0 (xs ++ [v]) (ys ++ [w]) (up1 σ v w) (tk ++ [w]) := by
 refine ⟨by simp [h.1], fun u hu => ?_⟩
 by_cases e : u = v
 ·have e1 : rnS (up1 σ v w) u = w := by rw [rnS, up1, if_pos e]; rfl
  rw [e1, plc_snoc, plc_snoc, if_pos e, if_pos rfl, h.1]
  exact ⟨by simp, rfl, fun h => by omega⟩
 ·have e1 : rnS (up1 σ v w) u = rnS σ u := by rw [rnS, rnS, up1, if_neg e]
  obtain ⟨h1, h2, h3⟩ := h.2 u hu
  have hne : ¬ rnS σ u = w := fun e => hw (e ▸ h1)
  rw [e1, plc_snoc, plc_snoc, if_neg e, if_neg hne]
  exact ⟨by simp [h1], h2, h3⟩
theorem JJ.list {tk0 : List ByteArray} : ∀ (vars ws xs ys tk : List ByteArray) (σ : Sb), vars.length = ws.length → JJ tk0 xs ys σ tk → Fresh tk ws → JJ tk0 (xs ++ vars) (ys ++ ws) (upV vars ws σ) (tk ++ ws)
 | [], [], xs, ys, tk, σ, _, h, _ => by simpa [upV] using h
 | v :: l, w :: r, xs, ys, tk, σ, hl, h, hf => by
  have hw : w ∉ tk := hf.2 w (by simp)
  have hf2 : Fresh (tk ++ [w]) r := by
   have hn := List.nodup_cons.1 hf.1
   refine ⟨hn.2, fun x hx hm => ?_⟩
   rcases List.mem_append.1 hm with hm | hm
   ·exact hf.2 x (by simp [hx]) hm
   ·rw [List.mem_singleton.1 hm] at hx; exact hn.1 hx
  have := JJ.list l r (xs ++ [v]) (ys ++ [w]) (tk ++ [w]) (up1 σ v w) (by simpa using hl) (h.step hw) hf2
  simpa [upV] using this
 | [], w :: r, _, _, _, _, hl, _, _ => by simp at hl
 | v :: l, [], _, _, _, _, hl, _, _ => by simp at hl
theorem addV_mem (out : List ByteArray) (v x : ByteArray) : x ∈ addV out v ↔ x = v ∨ x ∈ out := by
 unfold addV
 split
 ·rename_i h
  rw [List.any_eq_true] at h
  obtain ⟨y, hy, e⟩ := h
  have e := of_decide_eq_true e
  subst e
  exact ⟨.inr, fun h => h.elim (fun h => h ▸ hy) id⟩
 ·rw [List.mem_append, List.mem_singleton]; exact Or.comm
theorem addVs_mem : ∀ (l out : List ByteArray) (x : ByteArray), x ∈ addVs l out ↔ x ∈ l ∨ x ∈ out
 | [], out, x => by simp [addVs]
 | v :: l, out, x => by
  rw [addVs, addVs_mem l, addV_mem, List.mem_cons]
  constructor
  ·rintro (h | h | h) <;> simp [h]
  ·rintro ((h | h) | h) <;> simp [h]
mutual
theorem vr_ag : ∀ (f : GFml) (out : List ByteArray) (x : ByteArray), x ∈ agF f ∨ x ∈ out → x ∈ vrF f out
 | ⟨k, ar, nm, vars, args, kids⟩, out, x, h => by
  rw [agF, List.mem_append] at h
  rw [vrF]
  refine vr_agL kids _ x ?_
  rw [addVs_mem, addVs_mem]
  rcases h with (h | h) | h
  ·exact .inr (.inl h)
  ·exact .inl h
  ·exact .inr (.inr (.inr h))
theorem vr_agL : ∀ (l : List GFml) (out : List ByteArray) (x : ByteArray), x ∈ agL l ∨ x ∈ out → x ∈ vrL l out
 | [], out, x, h => by
  rw [vrL]
  rcases h with h | h
  ·rw [agL] at h; cases h
  ·exact h
 | y :: l, out, x, h => by
  rw [agL, List.mem_append] at h
  rw [vrL]
  refine vr_agL l _ x ?_
  rcases h with (h | h) | h
  ·exact .inr (vr_ag y out x (.inl h))
  ·exact .inl h
  ·exact .inr (vr_ag y out x (.inr h))
end
theorem namesG_nodup : ∀ (l pre : List ByteArray), l.Nodup → (∀ x ∈ l, x ∉ pre) → namesG false true pre l = true
 | [], _, _, _ => rfl
 | x :: l, pre, hn, hp => by
  have hn2 := List.nodup_cons.1 hn
  have h1 : (pre.any fun y => decide (y = x)) = false := by
   have := has_not.2 (hp x (by simp))
   exact this
  rw [namesG, h1, namesG_nodup l (pre ++ [x]) hn2.2 fun y hy hm => ?_]
  ·rfl
  ·rcases List.mem_append.1 hm with hm | hm
   ·exact hp y (by simp [hy]) hm
   ·rw [List.mem_singleton.1 hm] at hy; exact hn2.1 hy
theorem shaped_new {k ar : Int} {nm : ByteArray} {vars args vars' : List ByteArray} {kids kids' : List GFml} (g : ByteArray → ByteArray) (hl : kids'.length = kids.length) (hg : ∀ x, nameB x = true → nameB (g x) = true) (hv : vars'.length = vars.length) (hn : vars'.Nodup) (hvn : ∀ x ∈ vars', nameB x = true)
  (h : shapedP ⟨k, ar, nm, vars, args, kids⟩ = true) : shapedP ⟨k, ar, nm, vars', args.map g, kids'⟩ = true := by
 have h1 : namesG true true [] vars' = true := by
  rw [namesG_split, namesG_all, namesG_nodup vars' [] hn (by simp), Bool.and_true, List.all_eq_true]
  exact hvn
 simp only [shapedP, shp1, shp2, shp3, bA, hl, hv, lM, namesG_all, h1] at h ⊢
 refine ⟨h.1, ⟨⟨h.2.1.1.1, ?_⟩, ⟨h.2.1.2.1, trivial⟩⟩, h.2.2⟩
 have := h.2.1.1.2
 rw [List.all_eq_true] at this ⊢
 intro x hx
 obtain ⟨y, hy, rfl⟩ := List.mem_map.1 hx
 exact hg y (this y hy)
theorem up_name : ∀ (vars r : List ByteArray) (σ : Sb), (∀ v w, σ v = some w → nameB w = true) → (∀ x ∈ r, nameB x = true) → ∀ v w, upV vars r σ v = some w → nameB w = true
 | [], r, σ, h, hr => by rw [upV]; exact h; all_goals intros; simp_all
 | x :: l, [], σ, h, hr => by rw [upV]; exact h; all_goals intros; simp_all
 | x :: l, y :: r, σ, h, hr => by
  rw [upV]
  refine up_name l r _ (fun v w hv => ?_) (fun z hz => hr z (by simp [hz]))
  simp only [up1] at hv
  split at hv
  ·rw [← Option.some.inj hv]; exact hr y (by simp)
  ·exact h v w hv
mutual
theorem ap_sh : ∀ (f : GFml) (σ : Sb) (tk : List ByteArray) (n T : Nat), shsF f = true → tk.length + (bdF f).length ≤ T → n + (bdF f).length * (T + 1) ≤ 9000000000 → (∀ v w, σ v = some w → nameB w = true) → shsF (apF f σ tk n).1 = true
 | ⟨k, ar, nm, vars, args, kids⟩, σ, tk, n, T, h, hT1, hT2, hσ => by
  rw [shsF, bA] at h
  rw [bdF, lA] at hT1 hT2
  rw [Nat.add_mul] at hT2
  obtain ⟨k1, k2, k3⟩ := frL_bd T vars.length tk n (by omega)
  have hnew : ∀ x ∈ (frL vars.length tk n).1, nameB x = true := by
   intro x hx
   obtain ⟨m, hm, rfl⟩ := k3 x hx
   exact wB_name m (by omega)
  rw [apF, shsF, bA]
  refine ⟨ap_shL kids _ _ _ T h.1 (by rw [lA, frL_len]; omega) (by omega) (up_name vars _ σ hσ hnew), shaped_new (rnS σ) (ap_lenL _ _ _ _) (fun x hx => ?_) (frL_len _ _ _) (frL_fresh _ _ _).1 hnew h.2⟩
  rw [rnS]
  cases hs : σ x with
  | none => exact hx
  | some w => exact hσ x w hs
theorem ap_shL : ∀ (l : List GFml) (σ : Sb) (tk : List ByteArray) (n T : Nat), shsFs l = true → tk.length + (bdL l).length ≤ T → n + (bdL l).length * (T + 1) ≤ 9000000000 → (∀ v w, σ v = some w → nameB w = true) → shsFs (apL l σ tk n).1 = true
 | [], σ, tk, n, T, h, hT1, hT2, hσ => by rw [apL]; rfl
 | x :: l, σ, tk, n, T, h, hT1, hT2, hσ => by
  rw [shsFs, bA] at h
  rw [bdL, lA] at hT1 hT2
  rw [Nat.add_mul] at hT2
  have hb := ap_bd T x σ tk n (by omega)
  rw [apL]
  simp only [shsFs]
  rw [ap_sh x σ tk n T h.1 (by omega) (by omega) hσ, ap_shL l σ _ _ T h.2 (by rw [ap_tk, lA]; omega) (by omega) hσ]
  rfl
end
mutual
theorem agF_len : ∀ f : GFml, shsF f = true → (agF f).length ≤ 24 * ndF f
 | ⟨k, ar, nm, vars, args, kids⟩, h => by
  rw [shsF, bA] at h
  have h1 := shaped_args h.2
  have h2 := agL_len kids h.1
  simp only at h1
  rw [agF, ndF, lA]; omega
theorem agL_len : ∀ l : List GFml, shsFs l = true → (agL l).length ≤ 24 * ndFs l
 | [], h => by rw [agL]; exact Nat.zero_le _
 | x :: l, h => by
  rw [shsFs, bA] at h
  have h1 := agF_len x h.1
  have h2 := agL_len l h.2
  rw [agL, ndFs, lA]; omega
end
def tup (n : Nat) : Nat → Nat → List Int
 | 0, _ => []
 | m + 1, i => tup n m (i / n) ++ [((i % n : Nat) : Int)]
theorem tup_len (n : Nat) : ∀ m i, (tup n m i).length = m
 | 0, _ => rfl
 | m + 1, i => by rw [tup, lA, tup_len n m]; rfl
theorem tup_mem {n : Nat} (hn : 0 < n) : ∀ (m i : Nat) (x : Int), x ∈ tup n m i → 0 ≤ x ∧ x < n
 | 0, _, x, h => by cases h
 | m + 1, i, x, h => by
  rw [tup, List.mem_append] at h
  rcases h with h | h
  ·exact tup_mem hn m _ x h
  ·rw [List.mem_singleton.1 h]
   have := Nat.mod_lt i hn
   omega
def rankI (n : Int) : List Int → Int → Int
 | [], r => r
 | x :: t, r => rankI n t (r * n + x)
theorem tup_app (n : Nat) (hn : 0 < n) (a : Nat) : ∀ (b x y : Nat), y < n ^ b → tup n (a + b) (x * n ^ b + y) = tup n a x ++ tup n b y
 | 0, x, y, h => by
  have : y = 0 := by simpa using h
  subst this
  simp [tup]
 | b + 1, x, y, h => by
  have e : x * n ^ (b + 1) + y = x * n ^ b * n + y := by rw [Nat.pow_succ, Nat.mul_assoc]
  rw [Nat.pow_succ] at h
  have hy : y / n < n ^ b := Nat.div_lt_of_lt_mul (by rw [Nat.mul_comm]; exact h)
  rw [← Nat.add_assoc, tup, tup, e, Nat.add_comm (x * n ^ b * n) y, Nat.add_mul_div_right _ _ hn, Nat.add_mul_mod_self_right, Nat.add_comm (y / n), tup_app n hn a b x (y / n) hy, List.append_assoc]
def nxR (n : Int) : List Int → List Int × Bool
 | [] => ([], false)
 | d :: r => if d + 1 < n then ((d + 1) :: r, true) else (0 :: (nxR n r).1, (nxR n r).2)
theorem nxR_tup {n : Nat} (hn : 0 < n) : ∀ (m i : Nat), i < n ^ m → nxR n (tup n m i).reverse = ((tup n m ((i + 1) % n ^ m)).reverse, decide (i + 1 < n ^ m))
 | 0, i, h => by
  have : i = 0 := by simpa using h
  subst this; rfl
 | m + 1, i, h => by
  rw [Nat.pow_succ] at h ⊢
  have hd := Nat.div_lt_of_lt_mul (by rw [Nat.mul_comm]; exact h : i < n * n ^ m)
  have hm := Nat.mod_lt i hn
  have he := Nat.div_add_mod i n
  rw [tup, tup, List.reverse_append, List.reverse_append]
  simp only [List.reverse_cons, List.reverse_nil, List.nil_append, List.singleton_append]
  rw [nxR]
  by_cases hc : i % n + 1 < n
  ·rw [if_pos (by omega)]
   have h1 : i + 1 < n ^ m * n := by
    have : (i / n + 1) * n ≤ n ^ m * n := Nat.mul_le_mul_right n hd
    rw [Nat.add_mul, Nat.one_mul, Nat.mul_comm] at this
    omega
   have h2 : (i + 1) / n = i / n := by
    rw [← he, Nat.add_assoc, Nat.mul_add_div hn, Nat.mul_add_div hn, Nat.div_eq_of_lt hc, Nat.div_eq_of_lt hm]
   have h3 : (i + 1) % n = i % n + 1 := by
    rw [← he, Nat.add_assoc, Nat.mul_add_mod, Nat.mul_add_mod, Nat.mod_eq_of_lt hc, Nat.mod_eq_of_lt hm]
   rw [Nat.mod_eq_of_lt h1, h2, h3, decide_eq_true h1]
   rfl
  ·rw [if_neg (by omega), nxR_tup hn m (i / n) hd]
   have hi : i + 1 = (i / n + 1) * n := by rw [Nat.add_mul, Nat.one_mul, Nat.mul_comm]; omega
   have h1 : (i + 1) % (n ^ m * n) = ((i / n + 1) % n ^ m) * n := by rw [hi, Nat.mul_mod_mul_right]
   rw [h1, Nat.mul_div_cancel _ hn, Nat.mul_mod_left]
   have h2 : decide (i + 1 < n ^ m * n) = decide (i / n + 1 < n ^ m) := by
    rw [hi]; exact decide_eq_decide.2 (Nat.mul_lt_mul_right hn)
   rw [h2]; rfl
def incB : List Bool → List Bool × Bool
 | [] => ([], false)
 | true :: r => (false :: (incB r).1, (incB r).2)
 | false :: r => (true :: r, true)
def lkT {α : Type} : List (ByteArray × α) → ByteArray → Option α
 | [], _ => none
 | p :: r, s => match lkT r s with
  | some b => some b
  | none => if p.1 = s then some p.2 else none
theorem lkT_app {α : Type} (s : ByteArray) : ∀ a b : List (ByteArray × α), lkT (a ++ b) s = match lkT b s with | some x => some x | none => lkT a s
 | [], b => by rw [List.nil_append]; cases lkT b s <;> rfl
 | p :: a, b => by
  rw [List.cons_append, lkT, lkT, lkT_app s a b]
  cases lkT b s <;> rfl
theorem lkT_snoc {α : Type} (a : List (ByteArray × α)) (p : ByteArray × α) (s : ByteArray) : lkT (a ++ [p]) s = if p.1 = s then some p.2 else lkT a s := by
 rw [lkT_app, lkT, lkT]
 by_cases h : p.1 = s <;> simp [h]
abbrev TT := List (ByteArray × List Bool)
abbrev VV := List (ByteArray × Int)
def val (V : VV) (s : ByteArray) : Int := (lkT V s).getD 0
theorem val_snoc (V : VV) (v : ByteArray) (x : Int) (s : ByteArray) : val (V ++ [(v, x)]) s = if v = s then x else val V s := by
 rw [val, lkT_snoc]
 by_cases h : v = s
 ·rw [if_pos h, if_pos h]; rfl
 ·rw [if_neg h, if_neg h]; rfl
def falses (m : Nat) : List Bool := List.replicate m false
def lfpR (S : List Bool → List Bool) : Nat → List Bool → List Bool
 | 0, X => X
 | k + 1, X => if S X = X then X else lfpR S k (S X)
def pfpR (S : List Bool → List Bool) : Nat → List (List Bool) → List Bool → Option (List Bool)
 | 0, _, _ => none
 | k + 1, seen, X => if S X = X then some X else if (seen ++ [X]).contains (S X) = true then none else if 5000 < (seen ++ [X]).length then none else pfpR S k (seen ++ [X]) (S X)
def cloR (R : Nat → Nat → Bool) (L a : Nat) : Nat → Nat → Bool
 | 0, y => y == a
 | k + 1, y => cloR R L a k y || (List.range L).any fun x => cloR R L a k x && R x y
def gsR (P : List Bool → Bool) : Nat → List Bool → Bool
 | 0, t => P t
 | k + 1, t => P t || ((incB t).2 && gsR P k (incB t).1)
mutual
def sem (n M : Nat) : GFml → TT → VV → Bool
 | ⟨k, ar, nm, vars, args, kids⟩, T, V =>
  if k = 0 then (match lkT T nm with | none => false | some bits => bits.getD (rankI n (args.map (val V)) 0).toNat false)
  else if k = 1 then val V (args.getD 0 empB) == val V (args.getD 1 empB)
  else if k = 2 then decide (val V (args.getD 0 empB) < val V (args.getD 1 empB))
  else if k = 3 then !semH n M kids T V
  else if k = 4 then semA n M kids T V
  else if k = 5 then semO n M kids T V
  else if k = 6 then (List.range (n ^ vars.length)).any fun i => semH n M kids T (V ++ vars.zip (tup n vars.length i))
  else if k = 7 then !(List.range (n ^ vars.length)).any fun i => !semH n M kids T (V ++ vars.zip (tup n vars.length i))
  else if k = 8 then (lfpR (fun X => (List.range (n ^ vars.length)).map fun i => semH n M kids (T ++ [(nm, X)]) (V ++ vars.zip (tup n vars.length i))) (n ^ vars.length + 1) (falses (n ^ vars.length))).getD (rankI n (args.map (val V)) 0).toNat false
  else if k = 9 then (match pfpR (fun X => (List.range (n ^ vars.length)).map fun i => semH n M kids (T ++ [(nm, X)]) (V ++ vars.zip (tup n vars.length i))) M [] (falses (n ^ vars.length)) with | none => false | some X => X.getD (rankI n (args.map (val V)) 0).toNat false)
  else if k = 10 then cloR (fun x y => semH n M kids T (V ++ vars.zip (tup n (vars.length / 2) x ++ tup n (vars.length / 2) y))) (n ^ (vars.length / 2)) (rankI n ((args.map (val V)).take (vars.length / 2)) 0).toNat (n ^ (vars.length / 2)) (rankI n ((args.map (val V)).drop (vars.length / 2)) 0).toNat
  else gsR (fun X => semH n M kids (T ++ [(nm, X)]) V) (2 ^ (n ^ ar.toNat)) (falses (n ^ ar.toNat))
def semH (n M : Nat) : List GFml → TT → VV → Bool
 | [], _, _ => false
 | x :: _, T, V => sem n M x T V
def semA (n M : Nat) : List GFml → TT → VV → Bool
 | [], _, _ => true
 | x :: l, T, V => sem n M x T V && semA n M l T V
def semO (n M : Nat) : List GFml → TT → VV → Bool
 | [], _, _ => false
 | x :: l, T, V => sem n M x T V || semO n M l T V
end
theorem semH_one (n M : Nat) (x : GFml) (l : List GFml) (T : TT) (V : VV) : semH n M (x :: l) T V = sem n M x T V := by rw [semH]
theorem sem_kids (n M : Nat) (k ar : Int) (nm : ByteArray) (vars args : List ByteArray) (a b : List GFml) (h1 : ∀ T V, semH n M a T V = semH n M b T V) (h2 : ∀ T V, semA n M a T V = semA n M b T V) (h3 : ∀ T V, semO n M a T V = semO n M b T V) (T : TT) (V : VV) :
  sem n M ⟨k, ar, nm, vars, args, a⟩ T V = sem n M ⟨k, ar, nm, vars, args, b⟩ T V := by
 rw [sem, sem]
 simp only [h1, h2, h3]
theorem shaped_no {f : GFml} (h : shapedP f = true) (h8 : f.Kind = 3 ∨ f.Kind = 4 ∨ f.Kind = 5 ∨ f.Kind = 11) : f.Vars = [] := by
 simp only [shapedP, shp3, bA, dT] at h
 have h2 := h.2.1.2.1.2
 rcases h8 with e | e | e | e <;> (rw [e] at h2; simp [rulesP] at h2; exact h2)
theorem shaped_q1 {f : GFml} (h : shapedP f = true) (h8 : f.Kind = 6 ∨ f.Kind = 7 ∨ f.Kind = 8 ∨ f.Kind = 9 ∨ f.Kind = 10 ∨ f.Kind = 11 ∨ f.Kind = 3) : f.Kids.length = 1 := by
 simp only [shapedP, shp1, bA, dT] at h
 have h1 := h.1.1.1.1.1
 have h2 := h.1.1.1.1.2
 rcases h8 with e | e | e | e | e | e | e <;> (rw [e] at h1 h2; simp [rulesP] at h1 h2; omega)
mutual
theorem sem_nn (n M : Nat) : ∀ (f : GFml) (nt : Bool) (T : TT) (V : VV), shsF f = true → sem n M (nnF f nt) T V = (nt != sem n M f T V)
 | ⟨k, ar, nm, vars, args, kids⟩, nt, T, V, h => by
  rw [shsF, bA] at h
  rw [nnF]
  cases k3 : k == 3 with
  | true =>
   rw [cond_true]
   obtain ⟨h1, h2⟩ := shaped_not1 h.2 (by simpa using k3)
   simp only at h1 h2
   obtain rfl : k = 3 := by simpa using k3
   match kids, h1, h.1 with
   | [x], _, hs =>
    rw [shsFs, bA] at hs
    rw [nnH, sem_nn n M x _ T V hs.1, sem]
    simp only [semH_one, show ¬ (3 : Int) = 0 by omega, show ¬ (3 : Int) = 1 by omega, show ¬ (3 : Int) = 2 by omega, if_false, if_true]
    cases nt <;> cases sem n M x T V <;> rfl
  | false =>
   rw [cond_false]
   cases hq : qk k with
   | true =>
    rw [cond_true]
    have hA := sem_nnA n M kids nt
    simp only [qk, Bool.or_eq_true, beq_iff_eq] at hq
    have hk : k = 4 ∨ k = 5 ∨ k = 6 ∨ k = 7 := by omega
    cases nt with
    | false =>
     rw [cond_false, sem_kids n M k ar nm vars args (nnL kids false) kids (fun T V => sem_nnHf n M kids T V h.1) (fun T V => by rw [(hA T V h.1).1 rfl]) (fun T V => by rw [(hA T V h.1).2.1 rfl]) T V]
     cases sem n M ⟨k, ar, nm, vars, args, kids⟩ T V <;> rfl
    | true =>
     rw [cond_true]
     rcases hk with rfl | rfl | rfl | rfl
     ·show sem n M ⟨5, _, _, _, _, _⟩ T V = _
      rw [sem, sem]
      simp only [show ¬ (5 : Int) = 0 by omega, show ¬ (5 : Int) = 1 by omega, show ¬ (5 : Int) = 2 by omega, show ¬ (5 : Int) = 3 by omega, show ¬ (5 : Int) = 4 by omega, show ¬ (4 : Int) = 0 by omega, show ¬ (4 : Int) = 1 by omega, show ¬ (4 : Int) = 2 by omega, show ¬ (4 : Int) = 3 by omega, if_false, if_true]
      rw [(hA T V h.1).2.2.2 rfl]; cases semA n M kids T V <;> rfl
     ·show sem n M ⟨4, _, _, _, _, _⟩ T V = _
      rw [sem, sem]
      simp only [show ¬ (5 : Int) = 0 by omega, show ¬ (5 : Int) = 1 by omega, show ¬ (5 : Int) = 2 by omega, show ¬ (5 : Int) = 3 by omega, show ¬ (5 : Int) = 4 by omega, show ¬ (4 : Int) = 0 by omega, show ¬ (4 : Int) = 1 by omega, show ¬ (4 : Int) = 2 by omega, show ¬ (4 : Int) = 3 by omega, if_false, if_true]
      rw [(hA T V h.1).2.2.1 rfl]; cases semO n M kids T V <;> rfl
     all_goals
      have hl := shaped_q1 h.2 (by simp)
      simp only at hl
      have hH' : ∀ V, semH n M (nnL kids true) T V = !semH n M kids T V := fun V => sem_nnHt n M kids T V h.1 (by omega)
     ·show sem n M ⟨7, _, _, _, _, _⟩ T V = _
      rw [sem, sem]
      simp only [show ¬ (7 : Int) = 0 by omega, show ¬ (7 : Int) = 1 by omega, show ¬ (7 : Int) = 2 by omega, show ¬ (7 : Int) = 3 by omega, show ¬ (7 : Int) = 4 by omega, show ¬ (7 : Int) = 5 by omega, show ¬ (7 : Int) = 6 by omega, show ¬ (6 : Int) = 0 by omega, show ¬ (6 : Int) = 1 by omega, show ¬ (6 : Int) = 2 by omega, show ¬ (6 : Int) = 3 by omega, show ¬ (6 : Int) = 4 by omega, show ¬ (6 : Int) = 5 by omega, if_false, if_true, hH', Bool.not_not]
      cases (List.range (n ^ vars.length)).any fun i => semH n M kids T (V ++ vars.zip (tup n vars.length i)) <;> rfl
     ·show sem n M ⟨6, _, _, _, _, _⟩ T V = _
      rw [sem, sem]
      simp only [show ¬ (7 : Int) = 0 by omega, show ¬ (7 : Int) = 1 by omega, show ¬ (7 : Int) = 2 by omega, show ¬ (7 : Int) = 3 by omega, show ¬ (7 : Int) = 4 by omega, show ¬ (7 : Int) = 5 by omega, show ¬ (7 : Int) = 6 by omega, show ¬ (6 : Int) = 0 by omega, show ¬ (6 : Int) = 1 by omega, show ¬ (6 : Int) = 2 by omega, show ¬ (6 : Int) = 3 by omega, show ¬ (6 : Int) = 4 by omega, show ¬ (6 : Int) = 5 by omega, if_false, if_true, hH']
      cases (List.range (n ^ vars.length)).any fun i => !semH n M kids T (V ++ vars.zip (tup n vars.length i)) <;> rfl
   | false =>
    rw [cond_false]
    have hA := sem_nnA n M kids false
    have he := sem_kids n M k ar nm vars args (nnL kids false) kids (fun T V => sem_nnHf n M kids T V h.1) (fun T V => by rw [(hA T V h.1).1 rfl]) (fun T V => by rw [(hA T V h.1).2.1 rfl]) T V
    cases nt with
    | true =>
     rw [cond_true, sem]
     simp only [semH_one, show ¬ (3 : Int) = 0 by omega, show ¬ (3 : Int) = 1 by omega, show ¬ (3 : Int) = 2 by omega, if_false, if_true]
     rw [he]; cases sem n M ⟨k, ar, nm, vars, args, kids⟩ T V <;> rfl
    | false => rw [cond_false, he]; cases sem n M ⟨k, ar, nm, vars, args, kids⟩ T V <;> rfl
theorem sem_nnHf (n M : Nat) : ∀ (l : List GFml) (T : TT) (V : VV), shsFs l = true → semH n M (nnL l false) T V = semH n M l T V
 | [], T, V, h => by rw [nnL]
 | x :: l, T, V, h => by
  rw [shsFs, bA] at h
  rw [nnL, semH, semH, sem_nn n M x false T V h.1]; cases sem n M x T V <;> rfl
theorem sem_nnHt (n M : Nat) : ∀ (l : List GFml) (T : TT) (V : VV), shsFs l = true → 0 < l.length → semH n M (nnL l true) T V = !semH n M l T V
 | [], T, V, h, hl => by simp at hl
 | x :: l, T, V, h, _ => by
  rw [shsFs, bA] at h
  rw [nnL, semH, semH, sem_nn n M x true T V h.1]; cases sem n M x T V <;> rfl
theorem sem_nnA (n M : Nat) : ∀ (l : List GFml) (nt : Bool) (T : TT) (V : VV), shsFs l = true → (nt = false → semA n M (nnL l nt) T V = semA n M l T V) ∧ (nt = false → semO n M (nnL l nt) T V = semO n M l T V) ∧ (nt = true → semA n M (nnL l nt) T V = !semO n M l T V) ∧ (nt = true → semO n M (nnL l nt) T V = !semA n M l T V)
 | [], nt, T, V, h => by rw [nnL]; simp [semA, semO]
 | x :: l, nt, T, V, h => by
  rw [shsFs, bA] at h
  obtain ⟨k1, k2, k3, k4⟩ := sem_nnA n M l nt T V h.2
  rw [nnL]
  simp only [semA, semO]
  rw [sem_nn n M x nt T V h.1]
  refine ⟨fun e => ?_, fun e => ?_, fun e => ?_, fun e => ?_⟩
  ·rw [k1 e, e]; cases sem n M x T V <;> rfl
  ·rw [k2 e, e]; cases sem n M x T V <;> rfl
  ·rw [k3 e, e]; cases sem n M x T V <;> cases semO n M l T V <;> rfl
  ·rw [k4 e, e]; cases sem n M x T V <;> cases semA n M l T V <;> rfl
end
def VJ (tk0 : List ByteArray) (V V' : VV) (σ : Sb) (tk : List ByteArray) : Prop := ∀ v ∈ tk0, rnS σ v ∈ tk ∧ val V v = val V' (rnS σ v)
theorem VJ.mono {tk0 tk tk' : List ByteArray} {V V' : VV} {σ : Sb} (h : VJ tk0 V V' σ tk) (k : ∀ x ∈ tk, x ∈ tk') : VJ tk0 V V' σ tk' := fun v hv => ⟨k _ (h v hv).1, (h v hv).2⟩
theorem VJ.step {tk0 tk : List ByteArray} {V V' : VV} {σ : Sb} {v w : ByteArray} (x : Int) (h : VJ tk0 V V' σ tk) (hw : w ∉ tk) : VJ tk0 (V ++ [(v, x)]) (V' ++ [(w, x)]) (up1 σ v w) (tk ++ [w]) := by
 intro u hu
 by_cases e : u = v
 ·have e1 : rnS (up1 σ v w) u = w := by rw [rnS, up1, if_pos e]; rfl
  rw [e1, val_snoc, val_snoc, if_pos e.symm, if_pos rfl]
  exact ⟨by simp, rfl⟩
 ·have e1 : rnS (up1 σ v w) u = rnS σ u := by rw [rnS, rnS, up1, if_neg e]
  obtain ⟨h1, h2⟩ := h u hu
  have hne : ¬ w = rnS σ u := fun e => hw (e ▸ h1)
  rw [e1, val_snoc, val_snoc, if_neg (fun e' => e e'.symm), if_neg hne]
  exact ⟨by simp [h1], h2⟩
theorem VJ.list {tk0 : List ByteArray} : ∀ (vars ws tk : List ByteArray) (ts : List Int) (V V' : VV) (σ : Sb), vars.length = ws.length → ts.length = vars.length → VJ tk0 V V' σ tk → Fresh tk ws → VJ tk0 (V ++ vars.zip ts) (V' ++ ws.zip ts) (upV vars ws σ) (tk ++ ws)
 | [], [], tk, ts, V, V', σ, _, _, h, _ => by simpa [upV] using h
 | v :: l, w :: r, tk, t :: ts, V, V', σ, hl, ht, h, hf => by
  have hw : w ∉ tk := hf.2 w (by simp)
  have hf2 : Fresh (tk ++ [w]) r := by
   have hn := List.nodup_cons.1 hf.1
   refine ⟨hn.2, fun x hx hm => ?_⟩
   rcases List.mem_append.1 hm with hm | hm
   ·exact hf.2 x (by simp [hx]) hm
   ·rw [List.mem_singleton.1 hm] at hx; exact hn.1 hx
  have := VJ.list l r (tk ++ [w]) ts (V ++ [(v, t)]) (V' ++ [(w, t)]) (up1 σ v w) (by simpa using hl) (by simpa using ht) (h.step t hw) hf2
  simpa [upV] using this
 | [], w :: r, _, _, _, _, _, hl, _, _, _ => by simp at hl
 | v :: l, [], _, _, _, _, _, hl, _, _, _ => by simp at hl
 | v :: l, w :: r, _, [], _, _, _, _, ht, _, _ => by simp at ht
theorem vals_ap {tk0 tk : List ByteArray} {V V' : VV} {σ : Sb} (h : VJ tk0 V V' σ tk) : ∀ l : List ByteArray, (∀ x ∈ l, x ∈ tk0) → (l.map (rnS σ)).map (val V') = l.map (val V)
 | [], _ => rfl
 | x :: l, hl => by
  rw [List.map_cons, List.map_cons, List.map_cons, vals_ap h l (fun y hy => hl y (by simp [hy])), ← (h x (hl x (by simp))).2]
theorem arg_ap {tk0 tk : List ByteArray} {V V' : VV} {σ : Sb} (h : VJ tk0 V V' σ tk) (l : List ByteArray) (hl : ∀ x ∈ l, x ∈ tk0) (i : Nat) (hi : i < l.length) : val V' ((l.map (rnS σ)).getD i empB) = val V (l.getD i empB) := by
 rw [List.getD_eq_getElem?_getD, List.getD_eq_getElem?_getD, List.getElem?_map, List.getElem?_eq_getElem hi]
 exact ((h _ (hl _ (List.getElem_mem hi))).2).symm
theorem shaped_eq2 {f : GFml} (h : shapedP f = true) (h8 : f.Kind = 1 ∨ f.Kind = 2) : f.Args.length = 2 := by
 simp only [shapedP, shp3, bA, dT] at h
 have h1 := h.2.1.1.1.1
 have h2 := h.2.1.1.1.2
 rcases h8 with e | e <;> (rw [e] at h1 h2; simp [rulesP] at h1 h2; omega)
theorem shaped_tc {f : GFml} (h : shapedP f = true) (h8 : f.Kind = 10) : f.Vars.length % 2 = 0 := by
 simp only [shapedP, shp2, bA, Bool.not_eq_true', Bool.and_eq_false_iff, dF, Bool.not_eq_false', dT] at h
 rcases h.1.2.2 with e | e
 ·exact (e h8).elim
 ·omega
theorem kind_bd {f : GFml} (h : shapedP f = true) : 0 ≤ f.Kind ∧ f.Kind ≤ 11 := by
 by_cases q : 0 ≤ f.Kind ∧ f.Kind ≤ 11
 ·exact q
 ·exfalso
  have e : rulesP f.Kind = ⟨1, 0, 0, 0, 0, 0, false, false, false⟩ := by
   unfold rulesP
   simp only [show ¬ f.Kind = 0 by omega, show ¬ (f.Kind = 1 ∨ f.Kind = 2) by omega, show ¬ f.Kind = 3 by omega, show ¬ (f.Kind = 4 ∨ f.Kind = 5) by omega, show ¬ (f.Kind = 6 ∨ f.Kind = 7) by omega, show ¬ (f.Kind = 8 ∨ f.Kind = 9) by omega, show ¬ f.Kind = 10 by omega, show ¬ f.Kind = 11 by omega, if_false]
  simp only [shapedP, shp1, e, bA, dT] at h
  omega
mutual
theorem sem_ap (N M : Nat) (tk0 : List ByteArray) : ∀ (f : GFml) (σ : Sb) (tk : List ByteArray) (n : Nat) (T : TT) (V V' : VV), shsF f = true → (∀ x ∈ agF f, x ∈ tk0) → VJ tk0 V V' σ tk → sem N M (apF f σ tk n).1 T V' = sem N M f T V
 | ⟨k, ar, nm, vars, args, kids⟩, σ, tk, n, T, V, V', hs, ha, hJ => by
  rw [shsF, bA] at hs
  rw [agF] at ha
  have haa : ∀ x ∈ args, x ∈ tk0 := fun x hx => ha x (List.mem_append_left _ hx)
  have hak : ∀ x ∈ agL kids, x ∈ tk0 := fun x hx => ha x (List.mem_append_right _ hx)
  have hkb := kind_bd hs.2
  rw [apF]
  simp only
  have hlist := fun (ts : List Int) (h : ts.length = vars.length) => VJ.list vars (frL vars.length tk n).1 tk ts V V' σ (frL_len _ _ _).symm h hJ (frL_fresh _ _ _)
  have hK := fun (ts : List Int) (h : ts.length = vars.length) T => sem_apL N M tk0 kids (upV vars (frL vars.length tk n).1 σ) (tk ++ (frL vars.length tk n).1) (frL vars.length tk n).2 T _ _ hs.1 hak (hlist ts h)
  have hl := frL_len vars.length tk n
  have hva := vals_ap hJ args haa
  have hsame : vars = [] → upV vars (frL vars.length tk n).1 σ = σ ∧ tk ++ (frL vars.length tk n).1 = tk := by
   intro e; subst e; exact ⟨rfl, List.append_nil _⟩
  generalize (frL vars.length tk n).1 = ws at *
  generalize (frL vars.length tk n).2 = n' at *
  rw [sem, sem]
  have hk : k = 0 ∨ k = 1 ∨ k = 2 ∨ k = 3 ∨ k = 4 ∨ k = 5 ∨ k = 6 ∨ k = 7 ∨ k = 8 ∨ k = 9 ∨ k = 10 ∨ k = 11 := by simp only at hkb; omega
  have h0 : vars = [] → ∀ T, semH N M (apL kids (upV vars ws σ) (tk ++ ws) n').1 T V' = semH N M kids T V ∧ semA N M (apL kids (upV vars ws σ) (tk ++ ws) n').1 T V' = semA N M kids T V ∧ semO N M (apL kids (upV vars ws σ) (tk ++ ws) n').1 T V' = semO N M kids T V := by
   intro e T
   have := hK [] (by rw [e]; rfl) T
   simpa using this
  have hno : ∀ q : Int, k = q → (q = 3 ∨ q = 4 ∨ q = 5 ∨ q = 11) → vars = [] := by
   intro q e hq
   exact shaped_no hs.2 (by simp only; omega)
  rcases hk with rfl | rfl | rfl | rfl | rfl | rfl | rfl | rfl | rfl | rfl | rfl | rfl
  ·simp only [if_true, hva]
  ·have h2 := shaped_eq2 hs.2 (.inl rfl)
   simp only at h2
   simp only [arg_ap hJ args haa 0 (by omega), arg_ap hJ args haa 1 (by omega)]
   rfl
  ·have h2 := shaped_eq2 hs.2 (.inr rfl)
   simp only at h2
   simp only [arg_ap hJ args haa 0 (by omega), arg_ap hJ args haa 1 (by omega)]
   rfl
  ·simp only [(h0 (hno 3 rfl (by omega)) T).1]; rfl
  ·simp only [(h0 (hno 4 rfl (by omega)) T).2.1]; rfl
  ·simp only [(h0 (hno 5 rfl (by omega)) T).2.2]; rfl
  ·simp only [hl, fun i => (hK (tup N vars.length i) (tup_len _ _ _) T).1]; rfl
  ·simp only [hl, fun i => (hK (tup N vars.length i) (tup_len _ _ _) T).1]; rfl
  ·simp only [hl, hva, fun i X => (hK (tup N vars.length i) (tup_len _ _ _) X).1]; rfl
  ·simp only [hl, hva, fun i X => (hK (tup N vars.length i) (tup_len _ _ _) X).1]; rfl
  ·have h2 := shaped_tc hs.2 rfl
   simp only at h2
   simp only [hl, hva, fun x y => (hK (tup N (vars.length / 2) x ++ tup N (vars.length / 2) y) (by rw [lA, tup_len, tup_len]; omega) T).1]; rfl
  ·simp only [fun X => (h0 (hno 11 rfl (by omega)) X).1]; rfl
theorem sem_apL (N M : Nat) (tk0 : List ByteArray) : ∀ (l : List GFml) (σ : Sb) (tk : List ByteArray) (n : Nat) (T : TT) (V V' : VV), shsFs l = true → (∀ x ∈ agL l, x ∈ tk0) → VJ tk0 V V' σ tk → semH N M (apL l σ tk n).1 T V' = semH N M l T V ∧ semA N M (apL l σ tk n).1 T V' = semA N M l T V ∧ semO N M (apL l σ tk n).1 T V' = semO N M l T V
 | [], σ, tk, n, T, V, V', hs, ha, hJ => by rw [apL]; simp [semH, semA, semO]
 | x :: l, σ, tk, n, T, V, V', hs, ha, hJ => by
  rw [shsFs, bA] at hs
  rw [agL] at ha
  have h1 := sem_ap N M tk0 x σ tk n T V V' hs.1 (fun y hy => ha y (List.mem_append_left _ hy)) hJ
  have h2 := sem_apL N M tk0 l σ (apF x σ tk n).2.1 (apF x σ tk n).2.2 T V V' hs.2 (fun y hy => ha y (List.mem_append_right _ hy)) (hJ.mono fun y hy => by rw [ap_tk]; exact List.mem_append_left _ hy)
  rw [apL]
  simp only [semH, semA, semO, h1, h2.2.1, h2.2.2]
  exact ⟨trivial, trivial, trivial⟩
end
mutual
def fvB (s : ByteArray) : GFml → Bool
 | ⟨_, _, _, vars, args, kids⟩ => has args s || (!has vars s && fvBL s kids)
def fvBL (s : ByteArray) : List GFml → Bool
 | [] => false
 | x :: l => fvB s x || fvBL s l
end
def VEq (f : ByteArray → Bool) (V V' : VV) : Prop := ∀ s, f s = true → val V s = val V' s
theorem val_zip_in (V V' : VV) : ∀ (vars : List ByteArray) (ts : List Int), ts.length = vars.length → ∀ s, (s ∉ vars → val V s = val V' s) → val (V ++ vars.zip ts) s = val (V' ++ vars.zip ts) s := by
 intro vars ts hl s h
 unfold val
 rw [lkT_app, lkT_app]
 cases hz : lkT (vars.zip ts) s with
 | some x => rfl
 | none =>
  refine h fun hm => ?_
  have key : ∀ (vars : List ByteArray) (ts : List Int), ts.length = vars.length → s ∈ vars → lkT (vars.zip ts) s ≠ none := by
   intro vars
   induction vars with
   | nil => intro ts _ h; cases h
   | cons v l ih =>
    intro ts ht hm
    cases ts with
    | nil => simp at ht
    | cons t ts =>
     rw [List.zip_cons_cons, lkT]
     cases hr : lkT (l.zip ts) s with
     | some x => simp
     | none =>
      rcases List.mem_cons.1 hm with rfl | hm
      ·simp
      ·exact (ih ts (by simpa using ht) hm hr).elim
  exact key vars ts hl hm hz
theorem map_val_eq {V V' : VV} : ∀ l : List ByteArray, (∀ s ∈ l, val V s = val V' s) → l.map (val V) = l.map (val V')
 | [], _ => rfl
 | x :: l, h => by rw [List.map_cons, List.map_cons, h x (by simp), map_val_eq l (fun s hs => h s (by simp [hs]))]
theorem getD_val {V V' : VV} (l : List ByteArray) (h : ∀ s ∈ l, val V s = val V' s) (i : Nat) (hi : i < l.length) : val V (l.getD i empB) = val V' (l.getD i empB) := by
 rw [List.getD_eq_getElem?_getD, List.getElem?_eq_getElem hi]
 exact h _ (List.getElem_mem hi)
def TEq (f : ByteArray → Bool) (T T' : TT) : Prop := ∀ s, f s = true → lkT T s = lkT T' s
theorem TEq.push {f g : ByteArray → Bool} {T T' : TT} {nm : ByteArray} (h : TEq f T T') (k : ∀ s, g s = true → s ≠ nm → f s = true) (X : List Bool) : TEq g (T ++ [(nm, X)]) (T' ++ [(nm, X)]) := by
 intro s hs
 rw [lkT_snoc, lkT_snoc]
 by_cases e : nm = s
 ·simp [e]
 ·simp only [e, if_false]; exact h s (k s hs fun e' => e e'.symm)
theorem VEq.push {f g : ByteArray → Bool} {V V' : VV} {vars : List ByteArray} (h : VEq f V V') (k : ∀ s, g s = true → s ∉ vars → f s = true) (ts : List Int) (hl : ts.length = vars.length) : VEq g (V ++ vars.zip ts) (V' ++ vars.zip ts) := by
 intro s hs
 exact val_zip_in V V' vars ts hl s fun hn => h s (k s hs hn)
mutual
theorem sem_env (n M : Nat) : ∀ (f : GFml) (T T' : TT) (V V' : VV), shsF f = true → TEq (fun s => ocs s f) T T' → VEq (fun s => fvB s f) V V' → sem n M f T V = sem n M f T' V'
 | ⟨k, ar, nm, vars, args, kids⟩, T, T', V, V', hs, hT, hV => by
  rw [shsF, bA] at hs
  have hkb := kind_bd hs.2
  have hk : k = 0 ∨ k = 1 ∨ k = 2 ∨ k = 3 ∨ k = 4 ∨ k = 5 ∨ k = 6 ∨ k = 7 ∨ k = 8 ∨ k = 9 ∨ k = 10 ∨ k = 11 := by simp only at hkb; omega
  have hva : ∀ s ∈ args, val V s = val V' s := fun s hs => hV s (by simp only [fvB]; rw [has_mem.2 hs]; rfl)
  have hma := map_val_eq args hva
  have hfk : ∀ s, fvBL s kids = true → s ∉ vars → fvB s ⟨k, ar, nm, vars, args, kids⟩ = true := fun s h1 h2 => by
   rw [fvB, h1, has_not.2 h2]; simp
  have hok : ∀ s, ocsL s kids = true → k ≠ 0 → (bindsB ⟨k, ar, nm, vars, args, kids⟩ = true → nm ≠ s) → ocs s ⟨k, ar, nm, vars, args, kids⟩ = true := fun s h1 h2 h3 => by
   rw [ocs, show (k == 0) = false by simpa using h2, cond_false]
   cases hb : bindsB ⟨k, ar, nm, vars, args, kids⟩ with
   | false => exact h1
   | true => rw [decide_eq_false (h3 hb)]; exact h1
  have hL := sem_envL n M kids
  have hplain : k ≠ 0 → bindsB ⟨k, ar, nm, vars, args, kids⟩ = false → TEq (fun s => ocsL s kids) T T' := fun h1 h2 s h => hT s (hok s h h1 (by rw [h2]; intro h; cases h))
  have hbind : k ≠ 0 → ∀ X, TEq (fun s => ocsL s kids) (T ++ [(nm, X)]) (T' ++ [(nm, X)]) := fun h1 X => TEq.push hT (fun s h2 h3 => hok s h2 h1 fun _ => fun e => h3 e.symm) X
  have hvk : ∀ ts : List Int, ts.length = vars.length → VEq (fun s => fvBL s kids) (V ++ vars.zip ts) (V' ++ vars.zip ts) := fun ts hl => VEq.push hV hfk ts hl
  have hv0 : vars = [] → VEq (fun s => fvBL s kids) V V' := fun e => by
   have := hvk [] (by rw [e]; rfl)
   simpa using this
  rw [sem, sem]
  rcases hk with rfl | rfl | rfl | rfl | rfl | rfl | rfl | rfl | rfl | rfl | rfl | rfl
  ·have : lkT T nm = lkT T' nm := hT nm (by simp [ocs])
   simp only [if_true, this, hma]
  ·have h2 := shaped_eq2 hs.2 (.inl rfl)
   simp only at h2
   simp only [getD_val args hva 0 (by omega), getD_val args hva 1 (by omega)]
   rfl
  ·have h2 := shaped_eq2 hs.2 (.inr rfl)
   simp only at h2
   simp only [getD_val args hva 0 (by omega), getD_val args hva 1 (by omega)]
   rfl
  ·simp only [(hL T T' V V' hs.1 (hplain (by omega) rfl) (hv0 (shaped_no hs.2 (by simp)))).1]; rfl
  ·simp only [(hL T T' V V' hs.1 (hplain (by omega) rfl) (hv0 (shaped_no hs.2 (by simp)))).2.1]; rfl
  ·simp only [(hL T T' V V' hs.1 (hplain (by omega) rfl) (hv0 (shaped_no hs.2 (by simp)))).2.2]; rfl
  ·simp only [fun i => (hL T T' _ _ hs.1 (hplain (by omega) rfl) (hvk (tup n vars.length i) (tup_len _ _ _))).1]; rfl
  ·simp only [fun i => (hL T T' _ _ hs.1 (hplain (by omega) rfl) (hvk (tup n vars.length i) (tup_len _ _ _))).1]; rfl
  ·simp only [hma, fun i X => (hL _ _ _ _ hs.1 (hbind (by omega) X) (hvk (tup n vars.length i) (tup_len _ _ _))).1]; rfl
  ·simp only [hma, fun i X => (hL _ _ _ _ hs.1 (hbind (by omega) X) (hvk (tup n vars.length i) (tup_len _ _ _))).1]; rfl
  ·have h2 := shaped_tc hs.2 rfl
   simp only at h2
   simp only [hma, fun x y => (hL T T' _ _ hs.1 (hplain (by omega) rfl) (hvk (tup n (vars.length / 2) x ++ tup n (vars.length / 2) y) (by rw [lA, tup_len, tup_len]; omega))).1]; rfl
  ·simp only [fun X => (hL _ _ V V' hs.1 (hbind (by omega) X) (hv0 (shaped_no hs.2 (by simp)))).1]; rfl
theorem sem_envL (n M : Nat) : ∀ (l : List GFml) (T T' : TT) (V V' : VV), shsFs l = true → TEq (fun s => ocsL s l) T T' → VEq (fun s => fvBL s l) V V' → semH n M l T V = semH n M l T' V' ∧ semA n M l T V = semA n M l T' V' ∧ semO n M l T V = semO n M l T' V'
 | [], T, T', V, V', hs, hT, hV => by simp [semH, semA, semO]
 | x :: l, T, T', V, V', hs, hT, hV => by
  rw [shsFs, bA] at hs
  have h1 := sem_env n M x T T' V V' hs.1 (fun s h => hT s (by simp only [ocsL]; rw [show ocs s x = true from h]; rfl)) (fun s h => hV s (by simp only [fvBL]; rw [show fvB s x = true from h]; rfl))
  have h2 := sem_envL n M l T T' V V' hs.2 (fun s h => hT s (by simp only [ocsL]; rw [show ocsL s l = true from h]; simp)) (fun s h => hV s (by simp only [fvBL]; rw [show fvBL s l = true from h]; simp))
  simp only [semH, semA, semO, h1, h2.2.1, h2.2.2]
  exact ⟨trivial, trivial, trivial⟩
end
def LB (X Y : List Bool) : Prop := ∀ i, X.getD i false = true → Y.getD i false = true
theorem LB.refl (X : List Bool) : LB X X := fun _ h => h
theorem LB.trans {X Y Z : List Bool} (h : LB X Y) (k : LB Y Z) : LB X Z := fun i hi => k i (h i hi)
theorem LB.falses (m : Nat) (Y : List Bool) : LB (falses m) Y := fun i h => by
 unfold Go.Proofs.YtlpndgodkkndnaaGreatDoor.falses at h
 rw [List.getD_eq_getElem?_getD, List.getElem?_replicate] at h
 split at h <;> cases h
def cntB (X : List Bool) : Nat := X.countP id
theorem cnt_lt : ∀ X Y : List Bool, X.length = Y.length → LB X Y → X ≠ Y → cntB X < cntB Y
 | [], [], _, _, h => (h rfl).elim
 | x :: X, [], hl, _, _ => by simp at hl
 | [], y :: Y, hl, _, _ => by simp at hl
 | x :: X, y :: Y, hl, h, hne => by
  have h0 : x = true → y = true := fun e => by have := h 0 (by simpa using e); simpa using this
  have ht : LB X Y := fun i hi => by have := h (i + 1) (by simpa using hi); simpa using this
  have hle : ∀ X Y : List Bool, X.length = Y.length → LB X Y → cntB X ≤ cntB Y := by
   intro X
   induction X with
   | nil => intro Y _ _; simp [cntB]
   | cons a X ih =>
    intro Y hl h
    cases Y with
    | nil => simp at hl
    | cons b Y =>
     have h0 : a = true → b = true := fun e => by have := h 0 (by simpa using e); simpa using this
     have := ih Y (by simpa using hl) (fun i hi => by have := h (i + 1) (by simpa using hi); simpa using this)
     simp only [cntB, List.countP_cons, id] at this ⊢
     cases a <;> cases b <;> simp_all <;> omega
  have hl' : X.length = Y.length := by simpa using hl
  by_cases e : X = Y
  ·subst e
   have hxy : x ≠ y := fun e => hne (by rw [e])
   cases x <;> cases y
   ·exact (hxy rfl).elim
   ·simp [cntB]
   ·have := h0 rfl; cases this
   ·exact (hxy rfl).elim
  ·have h1 := cnt_lt X Y hl' ht e
   simp only [cntB, List.countP_cons, id] at h1 ⊢
   cases x <;> cases y <;> simp_all <;> omega
theorem cnt_le (X : List Bool) : cntB X ≤ X.length := List.countP_le_length
def TLe (s : ByteArray) (T T' : TT) : Prop := (∀ u, u ≠ s → lkT T u = lkT T' u) ∧ ∃ b b', lkT T s = some b ∧ lkT T' s = some b' ∧ LB b b'
theorem TLe.push {s nm : ByteArray} {T T' : TT} (h : TLe s T T') (hn : nm ≠ s) (X : List Bool) : TLe s (T ++ [(nm, X)]) (T' ++ [(nm, X)]) := by
 refine ⟨fun u hu => ?_, ?_⟩
 ·rw [lkT_snoc, lkT_snoc, h.1 u hu]
 ·obtain ⟨b, b', h1, h2, h3⟩ := h.2
  exact ⟨b, b', by rw [lkT_snoc, if_neg hn, h1], by rw [lkT_snoc, if_neg hn, h2], h3⟩
theorem TLe.out {s : ByteArray} {T T' : TT} (h : TLe s T T') {f : ByteArray → Bool} (hf : f s = false) : TEq f T T' := fun u hu => h.1 u fun e => by rw [e, hf] at hu; cases hu
structure TE where
 nm : ByteArray
 ar : Int
 hb : Nat
 bits : List Bool
def TE.av (t : TE) : AV := .st [.str t.nm, .int .i64 t.ar, .osl t.hb t.bits.length t.bits.length]
def TE.cells (t : TE) : List AV := [.str t.nm, .int .i64 t.ar, .osl t.hb t.bits.length t.bits.length]
def TE.row (t : TE) : Own := .row t.hb (t.bits.map bav)
def tcells (ts : List TE) : List AV := ts.flatMap TE.cells
theorem tcells_len : ∀ ts : List TE, (tcells ts).length = 3 * ts.length
 | [] => rfl
 | t :: ts => by
  have := tcells_len ts
  unfold tcells at this ⊢
  rw [List.flatMap_cons, lA, this, List.length_cons]
  simp [TE.cells]; omega
theorem tcells_app (a b : List TE) : tcells (a ++ b) = tcells a ++ tcells b := List.flatMap_append
theorem tcells_get : ∀ (ts : List TE) (i : Nat) (t : TE), ts[i]? = some t → (tcells ts)[3 * i]? = some (.str t.nm) ∧ (tcells ts)[3 * i + 1]? = some (.int .i64 t.ar) ∧ (tcells ts)[3 * i + 2]? = some (.osl t.hb t.bits.length t.bits.length)
 | [], i, t, h => by simp at h
 | u :: ts, 0, t, h => by
  obtain rfl : u = t := by simpa using h
  exact ⟨rfl, rfl, rfl⟩
 | u :: ts, i + 1, t, h => by
  have ih := tcells_get ts i t (by simpa using h)
  unfold tcells at ih ⊢
  rw [List.flatMap_cons, show 3 * (i + 1) = 3 * i + 3 by omega]
  exact ih
structure WS where
 N : Nat
 base : Nat
 long : Bool
 to : Option Nat
 tc : Nat
 tt : List AV
 ts : List TE
 no : Option Nat
 nc : Nat
 nt : List AV
 ns : List ByteArray
 vo : Option Nat
 vc : Nat
 vt : List AV
 vs : List Int
def WS.box (s : WS) : AV := .st [.int .i64 s.N, .int .i64 s.base, bfV s.to s.ts.length s.tc, bfV s.no s.ns.length s.nc, bfV s.vo s.vs.length s.vc, .bool s.long]
def wH (bw : Nat) (s : WS) : AH := .box bw s.box :: bfO s.to (tcells s.ts ++ s.tt) :: bfO s.no (s.ns.map AV.str ++ s.nt) :: bfO s.vo (s.vs.map iav ++ s.vt) :: s.ts.map TE.row
structure WS.Ok (s : WS) : Prop where
 n1 : 1 ≤ s.N
 n2 : s.N ≤ 64
 t1 : s.ts.length * 3 + s.tt.length = s.tc * 3
 t2 : s.to = none → s.ts.length = 0 ∧ s.tc = 0
 t3 : s.ts.length ≤ 10000
 m1 : s.ns.length + s.nt.length = s.nc
 m2 : s.no = none → s.ns.length = 0 ∧ s.nc = 0
 m3 : s.ns.length ≤ 100000
 v1 : s.vs.length + s.vt.length = s.vc
 v2 : s.vo = none → s.vs.length = 0 ∧ s.vc = 0
 v3 : s.vs.length = s.ns.length
 v4 : ∀ x ∈ s.vs, 0 ≤ x ∧ x < s.N
def WS.T (s : WS) : TT := s.ts.map fun t => (t.nm, t.bits)
def WS.V (s : WS) : VV := s.ns.zip s.vs
theorem val_bd {n : Int} (hn : 1 ≤ n) : ∀ (ns : List ByteArray) (vs : List Int), (∀ x ∈ vs, 0 ≤ x ∧ x < n) → ∀ v, 0 ≤ val (ns.zip vs) v ∧ val (ns.zip vs) v < n := by
 intro ns vs hv v
 have key : ∀ (V : VV), (∀ p ∈ V, 0 ≤ p.2 ∧ p.2 < n) → ∀ x, lkT V v = some x → 0 ≤ x ∧ x < n := by
  intro V
  induction V with
  | nil => intro _ x h; cases h
  | cons p V ih =>
   intro hp x h
   rw [lkT] at h
   cases hr : lkT V v with
   | some y => rw [hr] at h; exact ih (fun q hq => hp q (by simp [hq])) x (by rw [hr]; exact h)
   | none =>
    rw [hr] at h
    simp only at h
    split at h
    ·rw [← Option.some.inj h]; exact hp p (by simp)
    ·cases h
 unfold val
 cases hr : lkT (ns.zip vs) v with
 | none => exact ⟨Int.le_refl _, by show (0 : Int) < n; omega⟩
 | some x => exact key _ (fun p hp => hv p.2 (List.of_mem_zip (show (p.1, p.2) ∈ _ from hp)).2) x hr
theorem w_value (bw : Nat) (s : WS) (hs : s.Ok) (nm : ByteArray) : Tri Tryz.prog 177 [.ref bw 0, .str nm] (wH bw s) (D (.int .i64 (val s.V nm)) (wH bw s)) := by
 obtain ⟨_, _, _, _, _, m1, m2, m3, v1, v2, v3, v4⟩ := hs
 have hV : ∀ i x y, s.ns[i]? = some x → s.vs[i]? = some y → s.V.take (i + 1) = s.V.take i ++ [(x, y)] := fun i x y h1 h2 => by
  unfold WS.V
  rw [List.take_add_one]
  congr 1
  rw [(List.getElem?_zip_eq_some (z := (x, y))).2 ⟨h1, h2⟩]; rfl
 have hV0 : s.V.length = s.ns.length := by unfold WS.V; rw [List.length_zip]; omega
 generalize hVV : s.V = V at *
 refine Tri.enter 32 Tryz.func177 rfl rfl rfl rfl fun Fr w0 => ?_
 repeat' (first | refine AW.re 0 1 ?_ | (refine xS 1 2 ?_; refine AL.d (AOp.fr 3) ?_; refine AL.d (AOp.ll 0) ?_; refine AL.d (AOp.len_val (by kernel_rfl) rfl) ?_; refine AL.d (AOp.sub rfl rfl (by omega)) ?_; refine xN 1 ?_) | refine AW.go ?_ | fail)
 refine AW.prune [0, 1, 5] (AW.loop (fun mz af h => ∃ i : Nat, i ≤ s.ns.length ∧ mz = i ∧ af = [(0, .ref bw 0), (1, .str nm), (5, .int .i64 ((i : Int) - 1))] ∧ h = wH bw s ∧ val V nm = val (V.take i) nm) s.ns.length ⟨s.ns.length, Nat.le_refl _, rfl, rfl, rfl, by rw [List.take_of_length_le (by omega)]⟩ ?_)
 rintro mz af h ⟨i, hi, rfl, rfl, rfl, he⟩
 refine AW.seq ?_
 cases mz with
 | zero =>
  rw [he]
  repeat' (first | refine AW.re 2 2 ?_ | refine AW.re 6 1 ?_ | refine AW.jf ?_ | fail)
  all_goals try (exfalso; simp only [dT, dF, lM] at *; omega)
  exact AW.retv rfl ⟨rfl, rfl⟩
 | succ j =>
  obtain ⟨x, hx⟩ := get_lt (show j < s.ns.length by omega)
  obtain ⟨y, hy⟩ := get_lt (show j < s.vs.length by omega)
  obtain ⟨bn, hbn⟩ : ∃ b, s.no = some b := by
   cases h : s.no with
   | none => have := m2 h; omega
   | some b => exact ⟨b, rfl⟩
  obtain ⟨bv, hbv⟩ : ∃ b, s.vo = some b := by
   cases h : s.vo with
   | none => have := v2 h; omega
   | some b => exact ⟨b, rfl⟩
  have e1 : (((j + 1 : Nat) : Int) - 1).toNat * 1 = j := by omega
  have hx2 : (s.ns.map AV.str ++ s.nt)[(((j + 1 : Nat) : Int) - 1).toNat * 1]? = some (.str x) := by
   rw [e1, List.getElem?_append_left (by rw [lM]; omega)]; exact map_get hx
  have hy2 : (s.vs.map iav ++ s.vt)[(((j + 1 : Nat) : Int) - 1).toNat * 1]? = some (iav y) := by
   rw [e1, List.getElem?_append_left (by rw [lM]; omega)]; exact map_get hy
  have hh2 : (wH bw s)[2]? = some (.row bn (s.ns.map AV.str ++ s.nt)) := by
   show some (bfO s.no _) = _; rw [hbn]; rfl
  have hh3 : (wH bw s)[3]? = some (.row bv (s.vs.map iav ++ s.vt)) := by
   show some (bfO s.vo _) = _; rw [hbv]; rfl
  rw [hV j x y hx hy, val_snoc] at he
  have hA1 : bfA s.no = some ⟨bn, 0, none⟩ := by rw [hbn]; rfl
  have hA2 : bfA s.vo = some ⟨bv, 0, none⟩ := by rw [hbv]; rfl
  repeat' (first | refine AW.re 2 2 ?_ | (refine xS 4 2 ?_; refine AL.d (AOp.fr 3) ?_; refine AL.d (AOp.ll 0) ?_; refine AL.es 1 ?_; refine AL.d (AOp.index_val 1 rfl hA1 rfl (by omega) (by omega) (by kernel_rfl)) ?_; refine AL.d (AOp.load_cell 2 rfl hh2 hx2 rfl (by kernel_rfl)) ?_; refine xN 2 ?_) | refine AW.jj (fun hb => ?_) (fun hb => ?_) | refine AW.go ?_ | fail)
  all_goals try (exfalso; simp only [dT, dF, lM] at *; omega)
  all_goals rw [toList_beq] at hb
  ·have h : x = nm := by simpa using hb
   rw [if_pos h] at he
   repeat' (first | (refine xS 5 2 ?_; refine AL.d (AOp.fr 4) ?_; refine AL.d (AOp.ll 0) ?_; refine AL.es 1 ?_; refine AL.d (AOp.index_val 1 rfl hA2 rfl (by omega) (by omega) (by kernel_rfl)) ?_; refine AL.d (AOp.load_cell 3 rfl hh3 hy2 rfl (by kernel_rfl)) ?_; refine xN 1 ?_) | fail)
   exact AW.retv rfl ⟨by rw [he]; rfl, rfl⟩
  ·have h : ¬ x = nm := by simpa using hb
   rw [if_neg h] at he
   repeat' (first | (refine xS 3 1 ?_; refine AL.d (AOp.sub rfl rfl (by omega)) ?_; refine xN 1 ?_) | fail)
   exact AW.again_keep j [0, 1, 5] (by omega) ⟨j, by omega, rfl, by simp only [show (((j + 1 : Nat) : Int) - 1) = (j : Int) by omega]; rfl, rfl, he⟩
theorem set_mid {α : Type} (a r : List α) (x y : α) (i : Nat) (h : a.length = i) : (a ++ x :: r).set i y = a ++ y :: r := by
 subst h; simp
theorem w_Values (bw : Nat) (s : WS) (hs : s.Ok) (names : List ByteArray) (hl : names.length ≤ 100000) : Tri Tryz.prog 176 [.ref bw 0, strs names] (wH bw s) (D (ints (names.map (val s.V))) (wH bw s)) := by
 have hMx : (some (AV.int .i64 (names.map AV.str).length)) = some (.int .i64 (names.length : Nat)) := by rw [lM]
 have hv := fun nm => w_value bw s hs nm
 generalize hVV : s.V = V at *
 refine Tri.enter 26 Tryz.func176 rfl rfl rfl rfl fun Fr w0 => ?_
 repeat' (first | refine AW.re 0 1 ?_ | refine AW.go ?_ | fail)
 repeat' (first | (refine xS 1 2 ?_; refine AL.makeSlice (n := names.length) (e := 3) (c := .int .i64 0) (z := .int .i64 0) (bytes := 8) hMx hMx (by kernel_rfl) rfl (by omega) (by omega) rfl fun b => ?_; refine xN 1 ?_) | refine AW.re 2 1 ?_ | refine AW.go ?_ | fail)
 refine AW.prune [0, 1, 5, 6] (AW.loop (fun mz af h => ∃ (i : Nat) (o : List Int), i ≤ names.length ∧ mz = names.length - i ∧ af = [(0, .ref bw 0), (1, strs names), (5, .osl b names.length names.length), (6, .int .i64 i)] ∧ h = .row b (o.map iav ++ List.replicate (names.length - i) (.int .i64 0)) :: wH bw s ∧ o = (names.take i).map (val V)) names.length ⟨0, [], Nat.zero_le _, rfl, rfl, rfl, by simp⟩ ?_)
 rintro mz af h ⟨i, o, hi, rfl, rfl, rfl, he⟩
 refine AW.seq ?_
 by_cases hlt : i < names.length
 ·obtain ⟨x, hx⟩ := get_lt hlt
  have hx' : (names.map AV.str)[((i : Nat) : Int).toNat]? = some (.str x) := map_get hx
  have hol : o.length = i := by rw [he, lM, List.length_take]; omega
  have hc := tailD (hv x) [.row b (o.map iav ++ List.replicate (names.length - i) (.int .i64 0))]
  rw [show names.length - i = (names.length - (i + 1)) + 1 by omega, List.replicate_succ] at hc ⊢
  repeat' (first | refine AW.re 3 4 ?_ | refine AW.jj (fun hb => ?_) (fun hb => ?_) | refine AW.go ?_ | fail)
  all_goals try (exfalso; simp only [dT, dF, lM] at *; omega)
  repeat' (first | (refine xS 5 5 ?_; refine AL.d (iX hx') ?_; refine AL.es 1 ?_; refine AL.d (AOp.call rfl rfl hc) ?_; refine AL.d (AOp.index_osl rfl rfl (by omega) (by omega) (by kernel_rfl)) ?_; refine AL.store_cell 0 rfl rfl rfl (by simp; omega) rfl rfl (by kernel_rfl) ?_ <;> refine AL.nil ?_) | refine AW.go ?_ | fail)
  have hset : (o.map iav ++ AV.int .i64 0 :: List.replicate (names.length - (i + 1)) (.int .i64 0)).set ((i : Nat) : Int).toNat (.int .i64 (val V x)) = (o ++ [val V x]).map iav ++ List.replicate (names.length - (i + 1)) (.int .i64 0) := by
   rw [Int.toNat_natCast, set_mid _ _ _ _ _ (by rw [lM, hol]), List.map_append]; simp [iav]
  refine AW.frame_eq rfl (show _ = .row b ((o ++ [val V x]).map iav ++ List.replicate (names.length - (i + 1)) (.int .i64 0)) :: wH bw s from by rw [← hset]; rfl) ?_
  repeat' (first | (refine xS 4 1 ?_; refine AL.d AOp.ad ?_; refine xN 1 ?_) | fail)
  refine AW.again_keep (names.length - (i + 1)) [0, 1, 5, 6] (by omega) ⟨i + 1, o ++ [val V x], hlt, rfl, rfl, rfl, ?_⟩
  rw [he, List.take_add_one, hx]; simp
 ·have hi' : i = names.length := by omega
  subst hi'
  have ho2 : o = names.map (val V) := by rw [he, List.take_of_length_le (Nat.le_refl _)]
  rw [Nat.sub_self, List.replicate_zero, List.append_nil]
  repeat' (first | refine AW.re 3 4 ?_ | refine AW.jj (fun hb => ?_) (fun hb => ?_) | refine AW.go ?_ | fail)
  all_goals try (exfalso; simp only [dT, dF, lM] at *; omega)
  refine AW.freeze_row 0 5 rfl rfl (by rw [ho2]; simp) (all_map fun _ => rfl) ?_
  repeat' (first | refine AW.re 6 2 ?_ | fail)
  exact AW.retv rfl ⟨by rw [ho2]; rfl, rfl⟩
theorem powle {n : Nat} (hn : 1 ≤ n) {a b : Nat} (h : a ≤ b) : n ^ a ≤ n ^ b := Nat.pow_le_pow_right hn h
theorem rankI_bd {n : Nat} (hn : 1 ≤ n) : ∀ (t : List Int) (i : Nat) (r : Int), (∀ x ∈ t, 0 ≤ x ∧ x < n) → 0 ≤ r → r < (n ^ i : Nat) → 0 ≤ rankI n t r ∧ rankI n t r < (n ^ (i + t.length) : Nat)
 | [], i, r, _, h0, h1 => ⟨h0, h1⟩
 | x :: t, i, r, ht, h0, h1 => by
  have hx := ht x (by simp)
  have h2 : r * n + x < (n ^ (i + 1) : Nat) := by
   rw [Nat.pow_succ, Int.natCast_mul]
   have := Int.mul_le_mul_of_nonneg_right (show r + 1 ≤ (n ^ i : Nat) by omega) (show (0 : Int) ≤ n by omega)
   rw [Int.add_mul] at this; omega
  have h3 : 0 ≤ r * n + x := by have := Int.mul_nonneg h0 (show (0 : Int) ≤ n by omega); omega
  have := rankI_bd hn t (i + 1) (r * n + x) (fun y hy => ht y (by simp [hy])) h3 h2
  rw [rankI, List.length_cons, show i + (t.length + 1) = i + 1 + t.length by omega]
  exact this
theorem ref_rank3 (n : Nat) (hn : 1 ≤ n ∧ n ≤ 64) (t : List Int) (hl : t.length ≤ 60) (ht : ∀ x ∈ t, 0 ≤ x ∧ x < n) (hp : n ^ t.length ≤ 4096) : Tri Tryz.prog 174 [.int .i64 n, ints t] [] (D (.int .i64 (rankI n t 0)) []) := by
 refine Tri.enter 22 Tryz.func174 rfl rfl rfl rfl fun Fr w0 => ?_
 repeat' (first | refine AW.re 0 1 ?_ | refine AW.re 1 1 ?_ | refine AW.re 2 1 ?_ | refine AW.go ?_ | fail)
 refine AW.prune [0, 1, 5, 6] (AW.loop (fun mz af h => ∃ (i : Nat) (r : Int), i ≤ t.length ∧ mz = t.length - i ∧ af = [(0, .int .i64 n), (1, ints t), (5, .int .i64 r), (6, .int .i64 i)] ∧ h = [] ∧ (0 ≤ r ∧ r < (n ^ i : Nat) ∧ rankI n t 0 = rankI n (t.drop i) r)) t.length ⟨0, 0, Nat.zero_le _, rfl, rfl, rfl, ⟨by omega, by simp, rfl⟩⟩ ?_)
 rintro mz af h ⟨i, r, hi, rfl, rfl, rfl, he⟩
 refine AW.seq ?_
 by_cases hlt : i < t.length
 all_goals obtain ⟨r0, r1, he⟩ := he
 ·obtain ⟨x, hx⟩ := get_lt hlt
  have hx' : (t.map iav)[((i : Nat) : Int).toNat]? = some (iav x) := map_get hx
  have hxr := ht x (lG hx)
  rw [drop_cons hx, rankI] at he
  have h3 : r * n + n ≤ (n ^ (i + 1) : Nat) := by
   rw [Nat.pow_succ, Int.natCast_mul]
   have := Int.mul_le_mul_of_nonneg_right (show r + 1 ≤ (n ^ i : Nat) by omega) (show (0 : Int) ≤ n by omega)
   rw [Int.add_mul] at this; omega
  have hle := powle hn.1 (show i + 1 ≤ t.length by omega)
  have hnn : 0 ≤ r * n := Int.mul_nonneg r0 (by omega)
  repeat' (first | refine AW.re 3 4 ?_ | (refine xS 5 2 ?_; refine AL.d (AOp.mul rfl rfl (by omega)) ?_; refine AL.es 2 ?_; refine AL.d (iX hx') ?_; refine AL.es 1 ?_; refine AL.d AOp.ad ?_; refine xN 1 ?_) | (refine xS 4 1 ?_; refine AL.d AOp.ad ?_; refine xN 1 ?_) | refine AW.jj (fun hb => ?_) (fun hb => ?_) | refine AW.go ?_ | fail)
  all_goals try (exfalso; simp only [dT, dF, lM] at *; omega)
  exact AW.again_keep (t.length - (i + 1)) [0, 1, 5, 6] (by omega) ⟨i + 1, _, hlt, rfl, rfl, rfl, by omega, by omega, he⟩
 ·rw [List.drop_eq_nil_of_le (by omega), rankI] at he
  repeat' (first | refine AW.re 3 4 ?_ | refine AW.re 6 2 ?_ | refine AW.jj (fun hb => ?_) (fun hb => ?_) | refine AW.go ?_ | fail)
  all_goals try (exfalso; simp only [dT, dF, lM] at *; omega)
  exact AW.retv rfl ⟨by rw [he], rfl⟩
theorem w_in (bw : Nat) (s : WS) (hs : s.Ok) (nm : ByteArray) (t : List Int) (hl : t.length ≤ 60) (ht : ∀ x ∈ t, 0 ≤ x ∧ x < s.N) (hbits : ∀ bits, lkT s.T nm = some bits → s.N ^ t.length ≤ 4096 ∧ bits.length = s.N ^ t.length) :
  Tri Tryz.prog 175 [.ref bw 0, .str nm, ints t] (wH bw s) (D (.bool (match lkT s.T nm with | none => false | some bits => bits.getD (rankI s.N t 0).toNat false)) (wH bw s)) := by
 obtain ⟨n1, n2, t1, t2, t3, _, _, _, _, _, _, _⟩ := hs
 have hT : ∀ (i : Nat) (x : TE), s.ts[i]? = some x → s.T.take (i + 1) = s.T.take i ++ [(x.nm, x.bits)] := fun i x h => by
  unfold WS.T
  rw [List.take_add_one, List.getElem?_map, h]; rfl
 have hT0 : s.T.length = s.ts.length := by unfold WS.T; rw [lM]
 generalize hTT : s.T = TA at *
 refine Tri.enter 44 Tryz.func175 rfl rfl rfl rfl fun Fr w0 => ?_
 repeat' (first | refine AW.re 0 1 ?_ | (refine xS 1 2 ?_; refine AL.d (AOp.fr 2) ?_; refine AL.d (AOp.ll 0) ?_; refine AL.d (AOp.len_val (by kernel_rfl) rfl) ?_; refine AL.d (AOp.sub rfl rfl (by omega)) ?_; refine xN 1 ?_) | refine AW.go ?_ | fail)
 refine AW.prune [0, 1, 2, 7] (AW.loop (fun mz af h => ∃ i : Nat, i ≤ s.ts.length ∧ mz = i ∧ af = [(0, .ref bw 0), (1, .str nm), (2, ints t), (7, .int .i64 ((i : Int) - 1))] ∧ h = wH bw s ∧ lkT TA nm = lkT (TA.take i) nm) s.ts.length ⟨s.ts.length, Nat.le_refl _, rfl, rfl, rfl, by rw [List.take_of_length_le (by omega)]⟩ ?_)
 rintro mz af h ⟨i, hi, rfl, rfl, rfl, he⟩
 refine AW.seq ?_
 cases mz with
 | zero =>
  rw [he]
  repeat' (first | refine AW.re 2 2 ?_ | refine AW.re 6 1 ?_ | refine AW.jf ?_ | fail)
  all_goals try (exfalso; simp only [dT, dF, lM] at *; omega)
  exact AW.retv rfl ⟨rfl, rfl⟩
 | succ j =>
  obtain ⟨x, hx⟩ := get_lt (show j < s.ts.length by omega)
  obtain ⟨bt, hbt⟩ : ∃ b, s.to = some b := by
   cases h : s.to with
   | none => have := t2 h; omega
   | some b => exact ⟨b, rfl⟩
  obtain ⟨c0, c1, c2⟩ := tcells_get s.ts j x hx
  have hcl := tcells_len s.ts
  have hx0 : (tcells s.ts ++ s.tt)[(((j + 1 : Nat) : Int) - 1).toNat * 3 + 0]? = some (.str x.nm) := by
   rw [show (((j + 1 : Nat) : Int) - 1).toNat * 3 + 0 = 3 * j by omega, List.getElem?_append_left (by omega)]; exact c0
  have hx2 : (tcells s.ts ++ s.tt)[(((j + 1 : Nat) : Int) - 1).toNat * 3 + 2]? = some (.osl x.hb x.bits.length x.bits.length) := by
   rw [show (((j + 1 : Nat) : Int) - 1).toNat * 3 + 2 = 3 * j + 2 by omega, List.getElem?_append_left (by omega)]; exact c2
  have hh1 : (wH bw s)[1]? = some (.row bt (tcells s.ts ++ s.tt)) := by
   show some (bfO s.to _) = _; rw [hbt]; rfl
  have hA1 : bfA s.to = some ⟨bt, 0, none⟩ := by rw [hbt]; rfl
  have hhj : (wH bw s)[4 + j]? = some (.row x.hb (x.bits.map bav)) := by
   rw [show 4 + j = j + 4 by omega]
   show (s.ts.map TE.row)[j]? = _
   rw [List.getElem?_map, hx]; rfl
  rw [hT j x hx, lkT_snoc] at he
  repeat' (first | refine AW.re 2 2 ?_ | (refine xS 4 2 ?_; refine AL.d (AOp.fr 2) ?_; refine AL.d (AOp.ll 0) ?_; refine AL.es 1 ?_; refine AL.d (AOp.index_val 3 rfl hA1 rfl (by omega) (by omega) (by kernel_rfl)) ?_; refine AL.d (AOp.fr 0) ?_; refine AL.d (AOp.load_cell 1 rfl hh1 hx0 rfl (by kernel_rfl)) ?_; refine xN 2 ?_) | refine AW.jj (fun hb => ?_) (fun hb => ?_) | refine AW.go ?_ | fail)
  all_goals try (exfalso; simp only [dT, dF, lM] at *; omega)
  all_goals rw [toList_beq] at hb
  ·have h : x.nm = nm := by simpa using hb
   simp only [h, if_true] at he
   obtain ⟨hp, hbl⟩ := hbits _ he
   obtain ⟨r0, r1⟩ := rankI_bd n1 t 0 0 ht (Int.le_refl _) (by simp)
   rw [Nat.zero_add] at r1
   have hR := ref_rank3 s.N ⟨n1, n2⟩ t hl ht hp
   obtain ⟨bb, hbb⟩ := get_lt (show (rankI s.N t 0).toNat < x.bits.length by omega)
   have hbit : (x.bits.map bav)[(rankI s.N t 0).toNat]? = some (bav bb) := map_get hbb
   rw [he]
   generalize rankI (s.N : Int) t 0 = r at *
   repeat' (first | (refine AW.dq 5 ?_; refine AQ.es 2 ?_; refine AQ.p rfl (AOp.fr 2) ?_; refine AQ.p rfl (AOp.ll 0) ?_; refine AQ.es 1 ?_; refine AQ.p rfl (AOp.index_val 3 rfl hA1 rfl (by omega) (by omega) (by kernel_rfl)) ?_; refine AQ.p rfl (AOp.fr 2) ?_; refine AQ.p rfl (AOp.load_cell 1 rfl hh1 hx2 rfl (by kernel_rfl)) ?_; refine AQ.es 2 ?_; refine AQ.p rfl (AOp.fr 0) ?_; refine AQ.p rfl (AOp.ll 0) ?_; refine AQ.es 1 ?_; refine AQ.p rfl (AOp.call rfl rfl (hR.pure _)) ?_; refine AQ.p rfl (AOp.index_osl rfl rfl (by omega) (by omega) (by kernel_rfl)) ?_; refine AQ.p rfl (AOp.load_cell (4 + j) rfl hhj hbit rfl (by kernel_rfl)) ?_; refine AQ.es 1 ?_; refine AQ.nil ?_) | fail)
   exact AW.retv rfl ⟨by simp only [List.getD_eq_getElem?_getD, hbb]; rfl, rfl⟩
  ·have h : ¬ x.nm = nm := by simpa using hb
   simp only [h, if_false] at he
   repeat' (first | (refine xS 3 1 ?_; refine AL.d (AOp.sub rfl rfl (by omega)) ?_; refine xN 1 ?_) | fail)
   exact AW.again_keep j [0, 1, 2, 7] (by omega) ⟨j, by omega, rfl, by simp only [show (((j + 1 : Nat) : Int) - 1) = (j : Int) by omega]; rfl, rfl, he⟩
theorem ref_next (b m n : Nat) (l : List Int) (hm : l.length = m) (hn : 1 ≤ n ∧ n ≤ 64) (hl : ∀ x ∈ l, 0 ≤ x ∧ x < n) (hm2 : m ≤ 100000) :
  Tri Tryz.prog 193 [.osl b m m, .int .i64 n] [.row b (l.map iav)] (D (.bool (nxR n l.reverse).2) [.row b ((nxR n l.reverse).1.reverse.map iav)]) := by
 subst hm
 refine Tri.enter 28 Tryz.func193 rfl rfl rfl rfl fun Fr w0 => ?_
 repeat' (first | refine AW.re 0 1 ?_ | (refine xS 1 2 ?_; refine AL.d (AOp.sub rfl rfl (by omega)) ?_; refine xN 1 ?_) | refine AW.go ?_ | fail)
 refine AW.prune [0, 1, 5] (AW.loop (fun mz af h => ∃ i : Nat, i ≤ l.length ∧ mz = i ∧ af = [(0, .osl b l.length l.length), (1, .int .i64 n), (5, .int .i64 ((i : Int) - 1))] ∧ h = [.row b ((l.take i).map iav ++ List.replicate (l.length - i) (.int .i64 0))] ∧ nxR n l.reverse = (List.replicate (l.length - i) 0 ++ (nxR n (l.take i).reverse).1, (nxR n (l.take i).reverse).2)) l.length ⟨l.length, Nat.le_refl _, rfl, rfl, by simp, by simp⟩ ?_)
 rintro mz af h ⟨i, hi, rfl, rfl, rfl, he⟩
 refine AW.seq ?_
 cases mz with
 | zero =>
  rw [he]
  repeat' (first | refine AW.re 2 2 ?_ | refine AW.re 8 1 ?_ | refine AW.jf ?_ | fail)
  all_goals try (exfalso; simp only [dT, dF, lM] at *; omega)
  refine AW.retv rfl ⟨rfl, ?_⟩
  simp [nxR, iav]
 | succ j =>
  obtain ⟨x, hx⟩ := get_lt (show j < l.length by omega)
  have hxr := hl x (lG hx)
  have htk : l.take (j + 1) = l.take j ++ [x] := by rw [List.take_add_one, hx]; rfl
  have htl : ((l.take j).map iav).length = j := by rw [lM, List.length_take]; omega
  rw [htk, List.reverse_append] at he
  simp only [List.reverse_cons, List.reverse_nil, List.nil_append, List.singleton_append] at he
  rw [nxR] at he
  have hrow : (l.take (j + 1)).map iav ++ List.replicate (l.length - (j + 1)) (AV.int .i64 0) = (l.take j).map iav ++ iav x :: List.replicate (l.length - (j + 1)) (.int .i64 0) := by rw [htk]; simp
  rw [hrow]
  have hg : ∀ y : AV, ((l.take j).map iav ++ y :: List.replicate (l.length - (j + 1)) (AV.int .i64 0))[(((j + 1 : Nat) : Int) - 1).toNat]? = some y := fun y => by
   rw [show (((j + 1 : Nat) : Int) - 1).toNat = j by omega, List.getElem?_append_right (by omega), htl, Nat.sub_self]; rfl
  have hset : ∀ y z : AV, ((l.take j).map iav ++ y :: List.replicate (l.length - (j + 1)) (AV.int .i64 0)).set (((j + 1 : Nat) : Int) - 1).toNat z = (l.take j).map iav ++ z :: List.replicate (l.length - (j + 1)) (AV.int .i64 0) := fun y z => by
   rw [show (((j + 1 : Nat) : Int) - 1).toNat = j by omega, set_mid _ _ _ _ _ htl]
  have hll : (((j + 1 : Nat) : Int) - 1).toNat < ((l.take j).map iav ++ iav x :: List.replicate (l.length - (j + 1)) (AV.int .i64 0)).length := by
   rw [lA, htl, List.length_cons]; omega
  repeat' (first | refine AW.re 2 2 ?_ | refine AW.jj (fun hb => ?_) (fun hb => ?_) | refine AW.go ?_ | fail)
  all_goals try (exfalso; simp only [dT, dF, lM] at *; omega)
  repeat' (first | (refine xS 4 2 ?_; refine AL.d (AOp.index_osl rfl rfl (by omega) (by omega) (by kernel_rfl)) ?_; refine AL.d (AOp.load_cell 0 rfl rfl (hg _) rfl (by kernel_rfl)) ?_; refine AL.d (AOp.add rfl rfl (by omega)) ?_; refine AL.d (AOp.index_osl rfl rfl (by omega) (by omega) (by kernel_rfl)) ?_; refine AL.store_cell 0 rfl rfl rfl hll rfl rfl (by kernel_rfl) ?_; refine AL.nil ?_) | refine AW.go ?_ | fail)
  refine AW.frame_eq rfl (show _ = [Own.row b ((l.take j).map iav ++ iav (x + 1) :: List.replicate (l.length - (j + 1)) (.int .i64 0))] from by rw [← hset (iav x) (iav (x + 1))]; rfl) ?_
  repeat' (first | (refine xS 5 2 ?_; refine AL.d (AOp.index_osl rfl rfl (by omega) (by omega) (by kernel_rfl)) ?_; refine AL.d (AOp.load_cell 0 rfl rfl (hg _) rfl (by kernel_rfl)) ?_; refine xN 2 ?_) | refine AW.jj (fun hb => ?_) (fun hb => ?_) | refine AW.go ?_ | fail)
  ·have h : x + 1 < (n : Int) := by simpa using hb
   rw [if_pos h] at he
   repeat' (first | refine AW.re 6 1 ?_ | fail)
   refine AW.retv rfl ⟨by rw [he]; rfl, ?_⟩
   rw [he]
   simp only [List.reverse_append, List.reverse_cons, List.reverse_reverse, List.reverse_replicate, List.map_append, List.map_cons, List.map_replicate, List.append_assoc, List.map_nil, List.cons_append, List.nil_append]
   rfl
  ·have h : ¬ x + 1 < (n : Int) := by simpa using hb
   rw [if_neg h] at he
   have hll2 : (((j + 1 : Nat) : Int) - 1).toNat < ((l.take j).map iav ++ iav (x + 1) :: List.replicate (l.length - (j + 1)) (AV.int .i64 0)).length := by
    rw [lA, htl, List.length_cons]; omega
   repeat' (first | (refine xS 7 2 ?_; refine AL.d (AOp.index_osl rfl rfl (by omega) (by omega) (by kernel_rfl)) ?_; refine AL.store_cell 0 rfl rfl rfl hll2 rfl rfl (by kernel_rfl) ?_; refine AL.nil ?_) | (refine xS 3 1 ?_; refine AL.d (AOp.sub rfl rfl (by omega)) ?_; refine xN 1 ?_) | fail)
   refine AW.again_keep j [0, 1, 5] (by omega) ⟨j, by omega, rfl, by simp only [show (((j + 1 : Nat) : Int) - 1) = (j : Int) by omega]; rfl, ?_, ?_⟩
   ·show [Own.row b (((l.take j).map iav ++ iav (x + 1) :: List.replicate (l.length - (j + 1)) (AV.int .i64 0)).set _ _)] = _
    rw [hset, show l.length - j = (l.length - (j + 1)) + 1 by omega, List.replicate_succ]
    rfl
   ·rw [he, show l.length - j = (l.length - (j + 1)) + 1 by omega, List.replicate_succ']
    simp
inductive Mm where
 | m0
 | m1 (fr : Bool) (names : List ByteArray)
 | m2 (fr : Bool) (names : List ByteArray) (nn : Bool) (tab : TE)
def zTab : AV := .st [.str empB, .int .i64 0, .val (.slice none 0 0)]
def Mm.kn : Mm → Bool | .m0 => false | _ => true
def Mm.fr : Mm → Bool | .m0 => false | .m1 b _ => b | .m2 b _ _ _ => b
def Mm.dn : Mm → Bool | .m2 _ _ _ _ => true | _ => false
def Mm.nn : Mm → Bool | .m2 _ _ b _ => b | _ => false
def Mm.nav : Mm → AV | .m0 => .slt [] none 0 | .m1 _ l => strs l | .m2 _ l _ _ => strs l
def Mm.tab : Mm → AV | .m2 _ _ _ t => t.av | _ => zTab
def Mm.own : Mm → AH | .m2 _ _ _ t => [t.row] | _ => []
inductive NT where
 | mk (b : Nat) (f : GFml) (m : Mm) (kids : List NT)
def NT.b : NT → Nat | .mk b _ _ _ => b
def NT.f : NT → GFml | .mk _ f _ _ => f
def NT.m : NT → Mm | .mk _ _ m _ => m
def NT.kids : NT → List NT | .mk _ _ _ k => k
def nbox (f : GFml) (kb : List Nat) (m : Mm) : AV := .st [f.st, .sl (kb.map fun b => .ref b 0), .bool m.kn, .bool m.fr, .bool m.dn, .bool m.nn, m.nav, m.tab]
mutual
def nown : NT → AH
 | .mk b f m kids => .box b (nbox f (kids.map NT.b) m) :: (m.own ++ nownL kids)
def nownL : List NT → AH
 | [] => []
 | n :: l => nown n ++ nownL l
end
def NT.bx (n : NT) : Own := .box n.b (nbox n.f (n.kids.map NT.b) n.m)
def NT.rest (n : NT) : AH := n.m.own ++ nownL n.kids
theorem nown_eq (n : NT) : nown n = n.bx :: n.rest := by cases n; rw [nown]; rfl
def hH (bw : Nat) (s : WS) (n : NT) : AH := n.bx :: (wH bw s ++ n.rest)
structure Same (s s' : WS) : Prop where
 N : s'.N = s.N
 base : s'.base = s.base
 ts : s'.ts = s.ts
 ns : s'.ns = s.ns
 vs : s'.vs = s.vs
 ok : s'.Ok
theorem Same.refl {s : WS} (h : s.Ok) : Same s s := ⟨rfl, rfl, rfl, rfl, rfl, h⟩
theorem Same.trans {a b c : WS} (h : Same a b) (k : Same b c) : Same a c := ⟨k.N.trans h.N, k.base.trans h.base, k.ts.trans h.ts, k.ns.trans h.ns, k.vs.trans h.vs, k.ok⟩
theorem Same.T {s s' : WS} (h : Same s s') : s'.T = s.T := by unfold WS.T; rw [h.ts]
theorem Same.V {s s' : WS} (h : Same s s') : s'.V = s.V := by unfold WS.V; rw [h.ns, h.vs]
def HPost (bw : Nat) (s : WS) (n : NT) (K : NT → Prop) (v : AV) (Y : AH) : AEnd → AH → Prop := fun x h => x = .ret v ∧ ∃ s' n', h = Y ++ hH bw s' n' ∧ Same s s' ∧ n'.b = n.b ∧ n'.f = n.f ∧ K n'
theorem permW0 {α : Type} (w a b n t : α) (R : List α) : ([w, a, b] ++ (n :: t :: R)).Perm (n :: w :: t :: a :: b :: R) :=
 ((List.perm_append_comm (l₁ := [w, a, b]) (l₂ := [n, t])).append_right R).trans (.cons _ (.swap _ _ _))
theorem permW1 {α : Type} (y w a b n t : α) (R : List α) : ([y, w, a, b] ++ (n :: t :: R)).Perm (y :: n :: w :: t :: a :: b :: R) := .cons _ (permW0 w a b n t R)
theorem Tri.ahead {P : Program} {f : FuncId} {args : List AV} {b : AH} {Φ : AEnd → AH → Prop} (h : Tri P f args b Φ) (a : AH) : Tri P f args (a ++ b) (fun x h => ∃ h1, Φ x h1 ∧ h = a ++ h1) := by
 have := h.around a []
 simpa using this
theorem w_With_ro (bw : Nat) (K : NT → Prop) (v : Bool) (n : NT) (s : WS) (names : List ByteArray) (at_ : List Int) (hs : s.Ok) (hl : at_.length = names.length) (hn : s.ns.length + names.length ≤ 100000) (hat : ∀ x ∈ at_, 0 ≤ x ∧ x < s.N)
  (hK : ∀ s', s'.Ok → s'.N = s.N → s'.base = s.base → s'.ts = s.ts → s'.ns = s.ns ++ names → s'.vs = s.vs ++ at_ → Tri Tryz.prog 155 [.ref bw 0, .ref n.b 0] (hH bw s' n) (HPost bw s' n K (.bool v) [])) :
  Tri Tryz.prog 118 [.ref bw 0, strs names, ints at_, .ref n.b 0] (hH bw s n) (HPost bw s n K (.bool v) []) := by
 have hs0 := hs
 obtain ⟨n1, n2, t1, t2, t3, m1, m2, m3, v1, v2, v3, v4⟩ := hs
 have hlm : (at_.map iav).length = at_.length := lM _
 have hr1 : ∀ y ∈ names.map AV.str, y.size = 1 := all_map fun _ => rfl
 have hr2 : AV.cellsOK (names.map AV.str) = true := ok_all fun _ hy => by obtain ⟨_, _, rfl⟩ := List.mem_map.1 hy; rfl
 have hr3 : ∀ y ∈ at_.map iav, y.size = 1 := all_map fun _ => rfl
 have hr4 : AV.cellsOK (at_.map iav) = true := ok_all fun _ hy => by obtain ⟨_, _, rfl⟩ := List.mem_map.1 hy; rfl
 refine Tri.enter 56 Tryz.func118 rfl rfl rfl rfl fun Fr w0 => ?_
 repeat' (first | refine AW.re 0 1 ?_ | (refine xS 1 2 ?_; refine AL.d (AOp.fr 3) ?_; refine AL.d (AOp.ll 1) ?_; refine AL.d (AOp.len_val (by kernel_rfl) rfl) ?_; refine xN 1 ?_) | fail)
 refine AW.seq ?_
 refine AW.cut (fun af h => ∃ o1 c1 tl1 o2 c2 tl2, af = [(0, .ref bw 0), (3, .ref n.b 0), (9, .int .i64 s.ns.length)] ∧ h = [Own.box bw (.st [.int .i64 s.N, .int .i64 s.base, bfV s.to s.ts.length s.tc, bfV o1 (s.ns.length + (names.map AV.str).length) c1, bfV o2 (s.vs.length + (at_.map iav).length) c2, .bool s.long]), bfO o1 (s.ns.map AV.str ++ names.map AV.str ++ tl1), bfO o2 (s.vs.map iav ++ at_.map iav ++ tl2)] ++ (n.bx :: bfO s.to (tcells s.ts ++ s.tt) :: (s.ts.map TE.row ++ n.rest)) ∧ ((s.ns.map AV.str).length + (names.map AV.str).length + tl1.length = c1 * 1 ∧ (o1 = none → s.ns.length + (names.map AV.str).length = 0 ∧ c1 = 0) ∧ s.ns.length + (names.map AV.str).length ≤ c1) ∧ (s.vs.map iav).length + (at_.map iav).length + tl2.length = c2 * 1 ∧ (o2 = none → s.vs.length + (at_.map iav).length = 0 ∧ c2 = 0) ∧ s.vs.length + (at_.map iav).length ≤ c2) ?_ ?_
 ·repeat' (first | fail)
  refine AW.explore [false, true, false, true, true] [5, 7, 11, 13, 16, 19] rfl (by kernel_rfl) (by kernel_rfl) (by kernel_rfl) (by kernel_rfl) ?_
  refine AQE.ev rfl rfl rfl rfl ?_
  refine AQE.ev rfl rfl rfl rfl ?_
  refine AQE.ev rfl rfl rfl rfl ?_
  refine AQE.ev rfl rfl rfl rfl ?_
  first | refine AQE.op rfl AOp.fa rfl rfl ?_ | refine AQE.op rfl (AOp.fr 3) rfl rfl ?_
  refine AQE.hole rfl rfl ?_
  refine AQE.ev rfl rfl rfl rfl ?_
  refine AQE.hole rfl rfl ?_
  refine AQE.ev rfl rfl rfl rfl ?_
  refine AQE.ev rfl rfl rfl rfl ?_
  first | refine AQE.op rfl AOp.fa rfl rfl ?_ | refine AQE.op rfl (AOp.fr 4) rfl rfl ?_
  refine AQE.hole rfl rfl ?_
  refine AQE.ev rfl rfl rfl rfl ?_
  refine AQE.hole rfl rfl ?_
  refine AQE.ev rfl rfl rfl rfl ?_
  first | refine AQE.op rfl AOp.fa rfl rfl ?_ | refine AQE.op rfl (AOp.fr 3) rfl rfl ?_
  refine AQE.hole rfl rfl ?_
  refine AQE.ev rfl rfl rfl rfl ?_
  first | refine AQE.op rfl AOp.fa rfl rfl ?_ | refine AQE.op rfl (AOp.fr 4) rfl rfl ?_
  refine AQE.hole rfl rfl ?_
  refine AQE.nil ?_
  repeat' (first | refine AX.two (n := 5) 5 11 rfl ?_ ?_ | refine AX.one (n := 4) 5 rfl ?_ | refine AX.two (n := 4) 7 11 rfl ?_ ?_ | refine AX.one (n := 3) 7 rfl ?_ | refine AX.one (n := 3) 11 rfl ?_ | refine AX.one (n := 2) 13 rfl ?_ | refine AX.one (n := 1) 16 rfl ?_ | refine AX.one (n := 0) 19 rfl ?_ | (refine AXS.det (i := 5) rfl rfl rfl (AOp.ll 0) ?_; dsimp only [sA, sB, sC, sD]) | (refine AXS.step (i := 7) rfl rfl rfl (AOp.append_bf 1 1 (o := s.no) (n := s.ns.length) (c := s.nc) (us := s.ns.map AV.str) (tl := s.nt) (ys := names.map AV.str) (m := (names.map AV.str).length) (e := 9) (bytes := 16) rfl rfl (by rw [lM]; omega) (by rw [lM]; omega) m2 (SrcC.ro (v := strs names) rfl rfl hr1) (by omega) hr1 hr2 (by omega) (by kernel_rfl) (by kernel_rfl) (by rw [lM]; omega) (by rw [lM]; omega)) ?_ (by rintro _ _ ⟨_, _, _, e, _⟩; cases e); rintro _ _ ⟨o1, c1, tl1, e, rfl, q1, q2, q3⟩; injection e with e; subst e; dsimp only [sA, sB, sC, sD]) | (refine AXS.det (i := 11) rfl rfl rfl (AOp.ll 0) ?_; dsimp only [sA, sB, sC, sD]) | (refine AXS.step (i := 13) rfl rfl rfl (AOp.append_bf 2 1 (o := s.vo) (n := s.vs.length) (c := s.vc) (us := s.vs.map iav) (tl := s.vt) (ys := at_.map iav) (m := (at_.map iav).length) (e := 3) (bytes := 8) rfl rfl (by rw [lM]; omega) (by rw [lM]; omega) v2 (SrcC.ro (v := ints at_) rfl rfl hr3) (by omega) hr3 hr4 (by omega) (by kernel_rfl) (by kernel_rfl) (by (try rw [lM]); omega) (by (try rw [lM]); omega)) ?_ (by rintro _ _ ⟨_, _, _, e, _⟩; cases e); rintro _ _ ⟨o2, c2, tl2, e, rfl, p1, p2, p3⟩; injection e with e; subst e; dsimp only [sA, sB, sC, sD]) | (refine AXS.at (q := 16) rfl rfl ?_; refine AXO.sl 0 (fun _ => ?_); dsimp only [sA, sB, sC, sD]) | (refine AXS.at (q := 19) rfl rfl ?_; refine AXO.sl 0 (fun _ => ?_); dsimp only [sA, sB, sC, sD]) | fail)
  all_goals refine AX.done_keep [0,3,9] ?_
  all_goals exact AW.meet [0, 3, 9] ⟨o1, c1, tl1, o2, c2, tl2, rfl, rfl, ⟨q1, q2, q3⟩, p1, p2, p3⟩
 rintro _ _ ⟨o1, c1, tl1, o2, c2, tl2, rfl, rfl, ⟨q1, q2, q3⟩, p1, p2, p3⟩
 simp only [lM] at q1 q2 q3 p1 p2 p3
 obtain ⟨s2, hs2⟩ : ∃ s2 : WS, s2 = { s with no := o1, nc := c1, nt := tl1, ns := s.ns ++ names, vo := o2, vc := c2, vt := tl2, vs := s.vs ++ at_ } := ⟨_, rfl⟩
 have ok2 : s2.Ok := by
  subst hs2
  exact ⟨n1, n2, t1, t2, t3, by show (s.ns ++ names).length + tl1.length = c1; rw [lA]; omega, fun h => by show (s.ns ++ names).length = 0 ∧ _; rw [lA]; exact q2 h, by show (s.ns ++ names).length ≤ _; rw [lA]; omega, by show (s.vs ++ at_).length + tl2.length = c2; rw [lA]; omega, fun h => by show (s.vs ++ at_).length = 0 ∧ _; rw [lA]; exact p2 h, by show (s.vs ++ at_).length = (s.ns ++ names).length; rw [lA, lA]; omega, fun x hx => (List.mem_append.1 hx).elim (v4 x) (hat x)⟩
 have hc := hK s2 ok2 (by rw [hs2]) (by rw [hs2]) (by rw [hs2]) (by rw [hs2]) (by rw [hs2])
 refine AW.frame_eq rfl (show _ = [Own.box bw s2.box, bfO s2.no (s2.ns.map AV.str ++ s2.nt), bfO s2.vo (s2.vs.map iav ++ s2.vt)] ++ (n.bx :: bfO s2.to (tcells s2.ts ++ s2.tt) :: (s2.ts.map TE.row ++ n.rest)) from ?_) (AW.perm (permW0 _ _ _ _ _ _) ?_)
 ·subst hs2
  simp only [WS.box, lA, List.map_append, lM]
  try rfl
 repeat' (first | (refine xS 3 2 ?_; (refine AL.callQ rfl rfl hc rfl ?_ ?_; rotate_left; rintro _ _ ⟨e, _⟩; cases e; rintro _ _ ⟨e, s3, n3, rfl, sm, nb, nf, hk⟩; injection e with e; subst e) <;> refine AL.es 1 ?_ <;> refine AL.nil ?_) | fail)
 have hN : s3.N = s.N := by rw [sm.N, hs2]
 have hB : s3.base = s.base := by rw [sm.base, hs2]
 have hts : s3.ts = s.ts := by rw [sm.ts, hs2]
 have hns : s3.ns = s.ns ++ names := by rw [sm.ns, hs2]
 have hvs : s3.vs = s.vs ++ at_ := by rw [sm.vs, hs2]
 obtain ⟨k1, k2, k3, k4, k5, k6, k7, k8, k9, k10, k11, k12⟩ := sm.ok
 have hnl : s3.ns.length = s.ns.length + names.length := by rw [hns, lA]
 have hvl : s3.vs.length = s.vs.length + at_.length := by rw [hvs, lA]
 refine AW.seq ?_
 refine AW.cut (fun af h => af = [(10, .bool v)] ∧ h = [Own.box bw (.st [.int .i64 s3.N, .int .i64 s3.base, bfV s3.to s3.ts.length s3.tc, bfV s3.no s.ns.length s3.nc, bfV s3.vo s.ns.length s3.vc, .bool s3.long])] ++ (n3.bx :: (bfO s3.to (tcells s3.ts ++ s3.tt) :: bfO s3.no (s3.ns.map AV.str ++ s3.nt) :: bfO s3.vo (s3.vs.map iav ++ s3.vt) :: (s3.ts.map TE.row ++ n3.rest)))) ?_ ?_
 ·repeat' (first | fail)
  refine AW.explore [false, true] [5, 7, 11, 13, 16, 19] rfl (by kernel_rfl) (by kernel_rfl) (by kernel_rfl) (by kernel_rfl) ?_
  refine AQE.ev rfl rfl rfl rfl ?_
  refine AQE.ev rfl rfl rfl rfl ?_
  refine AQE.ev rfl rfl rfl rfl ?_
  refine AQE.ev rfl rfl rfl rfl ?_
  first | refine AQE.op rfl AOp.fa rfl rfl ?_ | refine AQE.op rfl (AOp.fr 3) rfl rfl ?_
  refine AQE.hole rfl rfl ?_
  refine AQE.ev rfl rfl rfl rfl ?_
  refine AQE.hole rfl rfl ?_
  refine AQE.ev rfl rfl rfl rfl ?_
  refine AQE.ev rfl rfl rfl rfl ?_
  first | refine AQE.op rfl AOp.fa rfl rfl ?_ | refine AQE.op rfl (AOp.fr 4) rfl rfl ?_
  refine AQE.hole rfl rfl ?_
  refine AQE.ev rfl rfl rfl rfl ?_
  refine AQE.hole rfl rfl ?_
  refine AQE.ev rfl rfl rfl rfl ?_
  first | refine AQE.op rfl AOp.fa rfl rfl ?_ | refine AQE.op rfl (AOp.fr 3) rfl rfl ?_
  refine AQE.hole rfl rfl ?_
  refine AQE.ev rfl rfl rfl rfl ?_
  first | refine AQE.op rfl AOp.fa rfl rfl ?_ | refine AQE.op rfl (AOp.fr 4) rfl rfl ?_
  refine AQE.hole rfl rfl ?_
  refine AQE.nil ?_
  repeat' (first | refine AX.two (n := 5) 5 11 rfl ?_ ?_ | refine AX.two (n := 4) 5 13 rfl ?_ ?_ | refine AX.two (n := 4) 7 11 rfl ?_ ?_ | refine AX.one (n := 3) 5 rfl ?_ | refine AX.two (n := 3) 7 13 rfl ?_ ?_ | refine AX.one (n := 3) 11 rfl ?_ | refine AX.one (n := 2) 7 rfl ?_ | refine AX.two (n := 2) 13 16 rfl ?_ ?_ | refine AX.one (n := 1) 13 rfl ?_ | refine AX.one (n := 1) 16 rfl ?_ | refine AX.one (n := 0) 19 rfl ?_ | (refine AXS.det (i := 5) rfl rfl rfl (AOp.ll 0) ?_; dsimp only [sA, sB, sC, sD]) | (refine AXS.det (i := 7) rfl rfl rfl (AOp.cut_bf (sz := 1) (k := s.ns.length) (by kernel_rfl) rfl (bndIs.some rfl rfl) (by omega)) ?_; dsimp only [sA, sB, sC, sD]) | (refine AXS.det (i := 11) rfl rfl rfl (AOp.ll 0) ?_; dsimp only [sA, sB, sC, sD]) | (refine AXS.det (i := 13) rfl rfl rfl (AOp.cut_bf (sz := 1) (k := s.ns.length) (by kernel_rfl) rfl (bndIs.some rfl rfl) (by omega)) ?_; dsimp only [sA, sB, sC, sD]) | (refine AXS.at (q := 16) rfl rfl ?_; refine AXO.sl 0 (fun _ => ?_); dsimp only [sA, sB, sC, sD]) | (refine AXS.at (q := 19) rfl rfl ?_; refine AXO.sl 0 (fun _ => ?_); dsimp only [sA, sB, sC, sD]) | fail)
  all_goals refine AX.done_keep [10] ?_
  all_goals exact AW.meet [10] ⟨rfl, rfl⟩
 rintro _ _ ⟨rfl, rfl⟩
 obtain ⟨s4, hs4⟩ : ∃ s4 : WS, s4 = { s3 with nt := names.map AV.str ++ s3.nt, ns := s.ns, vt := at_.map iav ++ s3.vt, vs := s.vs } := ⟨_, rfl⟩
 have ok4 : s4.Ok := by
  subst hs4
  exact ⟨k1, k2, k3, k4, k5, by show s.ns.length + (names.map AV.str ++ s3.nt).length = s3.nc; rw [lA, lM]; omega, fun h => ⟨by have := (k7 h).1; show s.ns.length = 0; omega, (k7 h).2⟩, m3, by show s.vs.length + (at_.map iav ++ s3.vt).length = s3.vc; rw [lA, lM]; omega, fun h => ⟨by have := (k10 h).1; show s.vs.length = 0; omega, (k10 h).2⟩, v3, fun x hx => by have := v4 x hx; rw [← hN] at this; exact this⟩
 refine AW.frame_eq rfl (show _ = [Own.box bw s4.box] ++ (n3.bx :: (bfO s4.to (tcells s4.ts ++ s4.tt) :: bfO s4.no (s4.ns.map AV.str ++ s4.nt) :: bfO s4.vo (s4.vs.map iav ++ s4.vt) :: (s4.ts.map TE.row ++ n3.rest))) from ?_) (AW.perm (.swap _ _ _) ?_)
 ·subst hs4
  simp only [WS.box, hns, hvs, List.map_append, List.append_assoc, v3]
  try rfl
 repeat' (first | refine AW.re 5 2 ?_ | fail)
 exact AW.retv rfl ⟨rfl, s4, n3, rfl, ⟨by rw [hs4]; exact hN, by rw [hs4]; exact hB, by rw [hs4]; exact hts, by rw [hs4], by rw [hs4], ok4⟩, nb, nf, hk⟩
theorem w_With_own (bw : Nat) (K : NT → Prop) (v : Bool) (n : NT) (s : WS) (names : List ByteArray) (at_ : List Int) (b c : Nat) (tl : List AV) (hs : s.Ok) (hl : at_.length = names.length) (hn : s.ns.length + names.length ≤ 100000) (hat : ∀ x ∈ at_, 0 ≤ x ∧ x < s.N)
  (hK : ∀ s', s'.Ok → s'.N = s.N → s'.base = s.base → s'.ts = s.ts → s'.ns = s.ns ++ names → s'.vs = s.vs ++ at_ → Tri Tryz.prog 155 [.ref bw 0, .ref n.b 0] (hH bw s' n) (HPost bw s' n K (.bool v) [])) :
  Tri Tryz.prog 118 [.ref bw 0, strs names, .osl b at_.length c, .ref n.b 0] (.row b (at_.map iav ++ tl) :: hH bw s n) (HPost bw s n K (.bool v) [.row b (at_.map iav ++ tl)]) := by
 have hs0 := hs
 obtain ⟨n1, n2, t1, t2, t3, m1, m2, m3, v1, v2, v3, v4⟩ := hs
 have hlm : (at_.map iav).length = at_.length := lM _
 have hr1 : ∀ y ∈ names.map AV.str, y.size = 1 := all_map fun _ => rfl
 have hr2 : AV.cellsOK (names.map AV.str) = true := ok_all fun _ hy => by obtain ⟨_, _, rfl⟩ := List.mem_map.1 hy; rfl
 have hr3 : ∀ y ∈ at_.map iav, y.size = 1 := all_map fun _ => rfl
 have hr4 : AV.cellsOK (at_.map iav) = true := ok_all fun _ hy => by obtain ⟨_, _, rfl⟩ := List.mem_map.1 hy; rfl
 refine Tri.enter 56 Tryz.func118 rfl rfl rfl rfl fun Fr w0 => ?_
 repeat' (first | refine AW.re 0 1 ?_ | (refine xS 1 2 ?_; refine AL.d (AOp.fr 3) ?_; refine AL.d (AOp.ll 2) ?_; refine AL.d (AOp.len_val (by kernel_rfl) rfl) ?_; refine xN 1 ?_) | fail)
 refine AW.seq ?_
 refine AW.cut (fun af h => ∃ o1 c1 tl1 o2 c2 tl2, af = [(0, .ref bw 0), (3, .ref n.b 0), (9, .int .i64 s.ns.length)] ∧ h = [.row b (at_.map iav ++ tl), Own.box bw (.st [.int .i64 s.N, .int .i64 s.base, bfV s.to s.ts.length s.tc, bfV o1 (s.ns.length + (names.map AV.str).length) c1, bfV o2 (s.vs.length + (at_.map iav).length) c2, .bool s.long]), bfO o1 (s.ns.map AV.str ++ names.map AV.str ++ tl1), bfO o2 (s.vs.map iav ++ at_.map iav ++ tl2)] ++ (n.bx :: bfO s.to (tcells s.ts ++ s.tt) :: (s.ts.map TE.row ++ n.rest)) ∧ ((s.ns.map AV.str).length + (names.map AV.str).length + tl1.length = c1 * 1 ∧ (o1 = none → s.ns.length + (names.map AV.str).length = 0 ∧ c1 = 0) ∧ s.ns.length + (names.map AV.str).length ≤ c1) ∧ (s.vs.map iav).length + (at_.map iav).length + tl2.length = c2 * 1 ∧ (o2 = none → s.vs.length + (at_.map iav).length = 0 ∧ c2 = 0) ∧ s.vs.length + (at_.map iav).length ≤ c2) ?_ ?_
 ·repeat' (first | fail)
  refine AW.explore [true, false, true, false, true, true] [5, 7, 11, 13, 16, 19] rfl (by kernel_rfl) (by kernel_rfl) (by kernel_rfl) (by kernel_rfl) ?_
  refine AQE.ev rfl rfl rfl rfl ?_
  refine AQE.ev rfl rfl rfl rfl ?_
  refine AQE.ev rfl rfl rfl rfl ?_
  refine AQE.ev rfl rfl rfl rfl ?_
  first | refine AQE.op rfl AOp.fa rfl rfl ?_ | refine AQE.op rfl (AOp.fr 3) rfl rfl ?_
  refine AQE.hole rfl rfl ?_
  refine AQE.ev rfl rfl rfl rfl ?_
  refine AQE.hole rfl rfl ?_
  refine AQE.ev rfl rfl rfl rfl ?_
  refine AQE.ev rfl rfl rfl rfl ?_
  first | refine AQE.op rfl AOp.fa rfl rfl ?_ | refine AQE.op rfl (AOp.fr 4) rfl rfl ?_
  refine AQE.hole rfl rfl ?_
  refine AQE.ev rfl rfl rfl rfl ?_
  refine AQE.hole rfl rfl ?_
  refine AQE.ev rfl rfl rfl rfl ?_
  first | refine AQE.op rfl AOp.fa rfl rfl ?_ | refine AQE.op rfl (AOp.fr 3) rfl rfl ?_
  refine AQE.hole rfl rfl ?_
  refine AQE.ev rfl rfl rfl rfl ?_
  first | refine AQE.op rfl AOp.fa rfl rfl ?_ | refine AQE.op rfl (AOp.fr 4) rfl rfl ?_
  refine AQE.hole rfl rfl ?_
  refine AQE.nil ?_
  repeat' (first | refine AX.two (n := 5) 5 11 rfl ?_ ?_ | refine AX.one (n := 4) 5 rfl ?_ | refine AX.two (n := 4) 7 11 rfl ?_ ?_ | refine AX.one (n := 3) 7 rfl ?_ | refine AX.one (n := 3) 11 rfl ?_ | refine AX.one (n := 2) 13 rfl ?_ | refine AX.one (n := 1) 16 rfl ?_ | refine AX.one (n := 0) 19 rfl ?_ | (refine AXS.det (i := 5) rfl rfl rfl (AOp.ll 1) ?_; dsimp only [sA, sB, sC, sD]) | (refine AXS.step (i := 7) rfl rfl rfl (AOp.append_bf 2 1 (o := s.no) (n := s.ns.length) (c := s.nc) (us := s.ns.map AV.str) (tl := s.nt) (ys := names.map AV.str) (m := (names.map AV.str).length) (e := 9) (bytes := 16) rfl rfl (by rw [lM]; omega) (by rw [lM]; omega) m2 (SrcC.ro (v := strs names) rfl rfl hr1) (by omega) hr1 hr2 (by omega) (by kernel_rfl) (by kernel_rfl) (by rw [lM]; omega) (by rw [lM]; omega)) ?_ (by rintro _ _ ⟨_, _, _, e, _⟩; cases e); rintro _ _ ⟨o1, c1, tl1, e, rfl, q1, q2, q3⟩; injection e with e; subst e; dsimp only [sA, sB, sC, sD]) | (refine AXS.det (i := 11) rfl rfl rfl (AOp.ll 1) ?_; dsimp only [sA, sB, sC, sD]) | (refine AXS.step (i := 13) rfl rfl rfl (AOp.append_bf 3 1 (o := s.vo) (n := s.vs.length) (c := s.vc) (us := s.vs.map iav) (tl := s.vt) (ys := at_.map iav) (m := (at_.map iav).length) (e := 3) (bytes := 8) rfl rfl (by rw [lM]; omega) (by rw [lM]; omega) v2 (SrcC.own 0 (b := b) (m := (at_.map iav).length) (c := c) (ys := at_.map iav) (rest := tl) (by rw [hlm]; rfl) rfl rfl) (by omega) hr3 hr4 (by omega) (by kernel_rfl) (by kernel_rfl) (by (try rw [lM]); omega) (by (try rw [lM]); omega)) ?_ (by rintro _ _ ⟨_, _, _, e, _⟩; cases e); rintro _ _ ⟨o2, c2, tl2, e, rfl, p1, p2, p3⟩; injection e with e; subst e; dsimp only [sA, sB, sC, sD]) | (refine AXS.at (q := 16) rfl rfl ?_; refine AXO.sl 1 (fun _ => ?_); dsimp only [sA, sB, sC, sD]) | (refine AXS.at (q := 19) rfl rfl ?_; refine AXO.sl 1 (fun _ => ?_); dsimp only [sA, sB, sC, sD]) | fail)
  all_goals refine AX.done_keep [0,3,9] ?_
  all_goals exact AW.meet [0, 3, 9] ⟨o1, c1, tl1, o2, c2, tl2, rfl, rfl, ⟨q1, q2, q3⟩, p1, p2, p3⟩
 rintro _ _ ⟨o1, c1, tl1, o2, c2, tl2, rfl, rfl, ⟨q1, q2, q3⟩, p1, p2, p3⟩
 simp only [lM] at q1 q2 q3 p1 p2 p3
 obtain ⟨s2, hs2⟩ : ∃ s2 : WS, s2 = { s with no := o1, nc := c1, nt := tl1, ns := s.ns ++ names, vo := o2, vc := c2, vt := tl2, vs := s.vs ++ at_ } := ⟨_, rfl⟩
 have ok2 : s2.Ok := by
  subst hs2
  exact ⟨n1, n2, t1, t2, t3, by show (s.ns ++ names).length + tl1.length = c1; rw [lA]; omega, fun h => by show (s.ns ++ names).length = 0 ∧ _; rw [lA]; exact q2 h, by show (s.ns ++ names).length ≤ _; rw [lA]; omega, by show (s.vs ++ at_).length + tl2.length = c2; rw [lA]; omega, fun h => by show (s.vs ++ at_).length = 0 ∧ _; rw [lA]; exact p2 h, by show (s.vs ++ at_).length = (s.ns ++ names).length; rw [lA, lA]; omega, fun x hx => (List.mem_append.1 hx).elim (v4 x) (hat x)⟩
 have hc := Tri.ahead (hK s2 ok2 (by rw [hs2]) (by rw [hs2]) (by rw [hs2]) (by rw [hs2]) (by rw [hs2])) [.row b (at_.map iav ++ tl)]
 refine AW.frame_eq rfl (show _ = [Own.row b (at_.map iav ++ tl), .box bw s2.box, bfO s2.no (s2.ns.map AV.str ++ s2.nt), bfO s2.vo (s2.vs.map iav ++ s2.vt)] ++ (n.bx :: bfO s2.to (tcells s2.ts ++ s2.tt) :: (s2.ts.map TE.row ++ n.rest)) from ?_) (AW.perm (permW1 _ _ _ _ _ _ _) ?_)
 ·subst hs2
  simp only [WS.box, lA, List.map_append, lM]
  try rfl
 repeat' (first | (refine xS 3 2 ?_; (refine AL.callQ rfl rfl hc rfl ?_ ?_; rotate_left; rintro _ _ ⟨_, ⟨e, _⟩, _⟩; cases e; rintro _ _ ⟨_, ⟨e, s3, n3, rfl, sm, nb, nf, hk⟩, rfl⟩; injection e with e; subst e) <;> refine AL.es 1 ?_ <;> refine AL.nil ?_) | fail)
 have hN : s3.N = s.N := by rw [sm.N, hs2]
 have hB : s3.base = s.base := by rw [sm.base, hs2]
 have hts : s3.ts = s.ts := by rw [sm.ts, hs2]
 have hns : s3.ns = s.ns ++ names := by rw [sm.ns, hs2]
 have hvs : s3.vs = s.vs ++ at_ := by rw [sm.vs, hs2]
 obtain ⟨k1, k2, k3, k4, k5, k6, k7, k8, k9, k10, k11, k12⟩ := sm.ok
 have hnl : s3.ns.length = s.ns.length + names.length := by rw [hns, lA]
 have hvl : s3.vs.length = s.vs.length + at_.length := by rw [hvs, lA]
 refine AW.seq ?_
 refine AW.cut (fun af h => af = [(10, .bool v)] ∧ h = [Own.box bw (.st [.int .i64 s3.N, .int .i64 s3.base, bfV s3.to s3.ts.length s3.tc, bfV s3.no s.ns.length s3.nc, bfV s3.vo s.ns.length s3.vc, .bool s3.long])] ++ (.row b (at_.map iav ++ tl) :: n3.bx :: (bfO s3.to (tcells s3.ts ++ s3.tt) :: bfO s3.no (s3.ns.map AV.str ++ s3.nt) :: bfO s3.vo (s3.vs.map iav ++ s3.vt) :: (s3.ts.map TE.row ++ n3.rest)))) ?_ ?_
 ·repeat' (first | fail)
  refine AW.explore [false, false, true] [5, 7, 11, 13, 16, 19] rfl (by kernel_rfl) (by kernel_rfl) (by kernel_rfl) (by kernel_rfl) ?_
  refine AQE.ev rfl rfl rfl rfl ?_
  refine AQE.ev rfl rfl rfl rfl ?_
  refine AQE.ev rfl rfl rfl rfl ?_
  refine AQE.ev rfl rfl rfl rfl ?_
  first | refine AQE.op rfl AOp.fa rfl rfl ?_ | refine AQE.op rfl (AOp.fr 3) rfl rfl ?_
  refine AQE.hole rfl rfl ?_
  refine AQE.ev rfl rfl rfl rfl ?_
  refine AQE.hole rfl rfl ?_
  refine AQE.ev rfl rfl rfl rfl ?_
  refine AQE.ev rfl rfl rfl rfl ?_
  first | refine AQE.op rfl AOp.fa rfl rfl ?_ | refine AQE.op rfl (AOp.fr 4) rfl rfl ?_
  refine AQE.hole rfl rfl ?_
  refine AQE.ev rfl rfl rfl rfl ?_
  refine AQE.hole rfl rfl ?_
  refine AQE.ev rfl rfl rfl rfl ?_
  first | refine AQE.op rfl AOp.fa rfl rfl ?_ | refine AQE.op rfl (AOp.fr 3) rfl rfl ?_
  refine AQE.hole rfl rfl ?_
  refine AQE.ev rfl rfl rfl rfl ?_
  first | refine AQE.op rfl AOp.fa rfl rfl ?_ | refine AQE.op rfl (AOp.fr 4) rfl rfl ?_
  refine AQE.hole rfl rfl ?_
  refine AQE.nil ?_
  repeat' (first | refine AX.two (n := 5) 5 11 rfl ?_ ?_ | refine AX.two (n := 4) 5 13 rfl ?_ ?_ | refine AX.two (n := 4) 7 11 rfl ?_ ?_ | refine AX.one (n := 3) 5 rfl ?_ | refine AX.two (n := 3) 7 13 rfl ?_ ?_ | refine AX.one (n := 3) 11 rfl ?_ | refine AX.one (n := 2) 7 rfl ?_ | refine AX.two (n := 2) 13 16 rfl ?_ ?_ | refine AX.one (n := 1) 13 rfl ?_ | refine AX.one (n := 1) 16 rfl ?_ | refine AX.one (n := 0) 19 rfl ?_ | (refine AXS.det (i := 5) rfl rfl rfl (AOp.ll 0) ?_; dsimp only [sA, sB, sC, sD]) | (refine AXS.det (i := 7) rfl rfl rfl (AOp.cut_bf (sz := 1) (k := s.ns.length) (by kernel_rfl) rfl (bndIs.some rfl rfl) (by omega)) ?_; dsimp only [sA, sB, sC, sD]) | (refine AXS.det (i := 11) rfl rfl rfl (AOp.ll 0) ?_; dsimp only [sA, sB, sC, sD]) | (refine AXS.det (i := 13) rfl rfl rfl (AOp.cut_bf (sz := 1) (k := s.ns.length) (by kernel_rfl) rfl (bndIs.some rfl rfl) (by omega)) ?_; dsimp only [sA, sB, sC, sD]) | (refine AXS.at (q := 16) rfl rfl ?_; refine AXO.sl 0 (fun _ => ?_); dsimp only [sA, sB, sC, sD]) | (refine AXS.at (q := 19) rfl rfl ?_; refine AXO.sl 0 (fun _ => ?_); dsimp only [sA, sB, sC, sD]) | fail)
  all_goals refine AX.done_keep [10] ?_
  all_goals exact AW.meet [10] ⟨rfl, rfl⟩
 rintro _ _ ⟨rfl, rfl⟩
 obtain ⟨s4, hs4⟩ : ∃ s4 : WS, s4 = { s3 with nt := names.map AV.str ++ s3.nt, ns := s.ns, vt := at_.map iav ++ s3.vt, vs := s.vs } := ⟨_, rfl⟩
 have ok4 : s4.Ok := by
  subst hs4
  exact ⟨k1, k2, k3, k4, k5, by show s.ns.length + (names.map AV.str ++ s3.nt).length = s3.nc; rw [lA, lM]; omega, fun h => ⟨by have := (k7 h).1; show s.ns.length = 0; omega, (k7 h).2⟩, m3, by show s.vs.length + (at_.map iav ++ s3.vt).length = s3.vc; rw [lA, lM]; omega, fun h => ⟨by have := (k10 h).1; show s.vs.length = 0; omega, (k10 h).2⟩, v3, fun x hx => by have := v4 x hx; rw [← hN] at this; exact this⟩
 refine AW.frame_eq rfl (show _ = [Own.box bw s4.box] ++ (.row b (at_.map iav ++ tl) :: n3.bx :: (bfO s4.to (tcells s4.ts ++ s4.tt) :: bfO s4.no (s4.ns.map AV.str ++ s4.nt) :: bfO s4.vo (s4.vs.map iav ++ s4.vt) :: (s4.ts.map TE.row ++ n3.rest))) from ?_) (AW.perm (List.Perm.trans (.swap _ _ _) (.cons _ (.swap _ _ _))) ?_)
 ·subst hs4
  simp only [WS.box, hns, hvs, List.map_append, List.append_assoc, v3]
  try rfl
 repeat' (first | refine AW.re 5 2 ?_ | fail)
 exact AW.retv rfl ⟨rfl, s4, n3, rfl, ⟨by rw [hs4]; exact hN, by rw [hs4]; exact hB, by rw [hs4]; exact hts, by rw [hs4], by rw [hs4], ok4⟩, nb, nf, hk⟩
abbrev LT := List (ByteArray × Nat)
mutual
def okF (N : Nat) : GFml → LT → Prop
 | ⟨k, ar, nm, vars, args, kids⟩, L =>
  (k = 0 → ∀ c, lkT L nm = some c → c = N ^ args.length ∧ c ≤ 4096) ∧ (k = 8 ∨ k = 9 → N ^ vars.length ≤ 4096) ∧ (k = 10 → N ^ (vars.length / 2) ≤ 4096) ∧ (k = 11 → N ^ ar.toNat ≤ 16) ∧
  (k ≠ 0 → okFL N kids (if k = 8 ∨ k = 9 then L ++ [(nm, N ^ vars.length)] else if k = 11 then L ++ [(nm, N ^ ar.toNat)] else L))
def okFL (N : Nat) : List GFml → LT → Prop
 | [], _ => True
 | x :: l, L => okF N x L ∧ okFL N l L
end
theorem okF_eq (N : Nat) (f : GFml) (L : LT) : okF N f L = ((f.Kind = 0 → ∀ c, lkT L f.Name = some c → c = N ^ f.Args.length ∧ c ≤ 4096) ∧ (f.Kind = 8 ∨ f.Kind = 9 → N ^ f.Vars.length ≤ 4096) ∧ (f.Kind = 10 → N ^ (f.Vars.length / 2) ≤ 4096) ∧ (f.Kind = 11 → N ^ f.Arity.toNat ≤ 16) ∧
  (f.Kind ≠ 0 → okFL N f.Kids (if f.Kind = 8 ∨ f.Kind = 9 then L ++ [(f.Name, N ^ f.Vars.length)] else if f.Kind = 11 then L ++ [(f.Name, N ^ f.Arity.toNat)] else L))) := by
 cases f; rw [okF]
theorem okFL_mem {N : Nat} {L : LT} : ∀ {l : List GFml}, okFL N l L → ∀ x ∈ l, okF N x L
 | [], _, x, h => by cases h
 | y :: l, h, x, hx => by
  rw [okFL] at h
  rcases List.mem_cons.1 hx with rfl | hx
  ·exact h.1
  ·exact okFL_mem h.2 x hx
def tl (T : TT) : LT := T.map fun p => (p.1, p.2.length)
theorem lkT_tl : ∀ (T : TT) (s : ByteArray), lkT (tl T) s = (lkT T s).map List.length
 | [], _ => rfl
 | p :: T, s => by
  have ih := lkT_tl T s
  unfold tl at ih ⊢
  rw [List.map_cons, lkT, lkT, ih]
  cases lkT T s with
  | some b => rfl
  | none => simp only [Option.map_none]; split <;> rfl
def stg (N M : Nat) (f : GFml) (T : TT) (V : VV) (X : List Bool) : List Bool := (List.range (N ^ f.Vars.length)).map fun i => semH N M f.Kids (T ++ [(f.Name, X)]) (V ++ f.Vars.zip (tup N f.Vars.length i))
def tcT (N M : Nat) (f : GFml) (T : TT) (V : VV) : List Bool := (List.range (N ^ f.Vars.length)).map fun i => semH N M f.Kids T (V ++ f.Vars.zip (tup N f.Vars.length i))
def fixO (N M : Nat) (f : GFml) (T : TT) (V : VV) : Option (List Bool) :=
 if f.Kind = 8 then some (lfpR (stg N M f T V) (N ^ f.Vars.length + 1) (falses (N ^ f.Vars.length))) else pfpR (stg N M f T V) M [] (falses (N ^ f.Vars.length))
theorem falses_len (m : Nat) : (falses m).length = m := by simp [falses]
def aloneOk (f : GFml) (fr : Bool) (names : List ByteArray) : Prop := (fr = true → ∀ s, fvBL s f.Kids = true → s ∈ f.Vars) ∧ (∀ s, ocsL s f.Kids = true → s = f.Name ∨ s ∈ names) ∧ names.length ≤ 100000
def tabOk (N M : Nat) (T0 : TT) (f : GFml) (nn : Bool) (X : List Bool) : Prop :=
 (f.Kind = 8 ∨ f.Kind = 9 → (nn = false → fixO N M f T0 [] = some X) ∧ (nn = true → fixO N M f T0 [] = none)) ∧ (f.Kind = 10 → X = tcT N M f T0 [])
def mOk (N M : Nat) (T0 : TT) (f : GFml) : Mm → Prop
 | .m0 => True
 | .m1 fr names => aloneOk f fr names
 | .m2 fr names nn tab => aloneOk f fr names ∧ fr = true ∧ tabOk N M T0 f nn tab.bits
mutual
def KOk (N M : Nat) (T0 : TT) : NT → Prop
 | .mk b f m kids => mOk N M T0 f m ∧ kids.map NT.f = f.Kids ∧ KOkL N M T0 kids
def KOkL (N M : Nat) (T0 : TT) : List NT → Prop
 | [] => True
 | n :: l => KOk N M T0 n ∧ KOkL N M T0 l
end
theorem KOk_eq (N M : Nat) (T0 : TT) (n : NT) : KOk N M T0 n = (mOk N M T0 n.f n.m ∧ n.kids.map NT.f = n.f.Kids ∧ KOkL N M T0 n.kids) := by
 cases n; rw [KOk]; rfl
theorem KOkL_mem {N M : Nat} {T0 : TT} : ∀ {l : List NT}, KOkL N M T0 l → ∀ x ∈ l, KOk N M T0 x
 | [], _, x, h => by cases h
 | y :: l, h, x, hx => by
  rw [KOkL] at h
  rcases List.mem_cons.1 hx with rfl | hx
  ·exact h.1
  ·exact KOkL_mem h.2 x hx
theorem shsF_kids {f : GFml} (h : shsF f = true) : shsFs f.Kids = true := by
 rw [shsF_eq, bA] at h; exact h.1
theorem frV_iff (vars : List ByteArray) : ∀ (l out : List ByteArray) (x : ByteArray), x ∈ frV vars l out ↔ (x ∈ l ∧ has vars x = false) ∨ x ∈ out
 | [], out, x => by rw [frV]; simp
 | v :: l, out, x => by
  rw [frV, frV_iff vars l]
  cases hv : has vars v with
  | true =>
   simp only [cond_true, List.mem_cons]
   constructor
   ·rintro (⟨h1, h2⟩ | h)
    ·exact .inl ⟨.inr h1, h2⟩
    ·exact .inr h
   ·rintro (⟨rfl | h1, h2⟩ | h)
    ·rw [hv] at h2; cases h2
    ·exact .inl ⟨h1, h2⟩
    ·exact .inr h
  | false =>
   simp only [cond_false, List.mem_cons, risP_mem]
   constructor
   ·rintro (⟨h1, h2⟩ | rfl | h)
    ·exact .inl ⟨.inr h1, h2⟩
    ·exact .inl ⟨.inl rfl, hv⟩
    ·exact .inr h
   ·rintro (⟨rfl | h1, h2⟩ | h)
    ·exact .inr (.inl rfl)
    ·exact .inl ⟨h1, h2⟩
    ·exact .inr (.inr h)
theorem frA_iff : ∀ (l out : List ByteArray) (x : ByteArray), x ∈ frA l out ↔ x ∈ l ∨ x ∈ out
 | [], out, x => by rw [frA]; simp
 | v :: l, out, x => by
  rw [frA, frA_iff l, risP_mem, List.mem_cons]
  constructor
  ·rintro (h | rfl | h) <;> simp [*]
  ·rintro ((rfl | h) | h) <;> simp [*]
mutual
theorem frF_fv : ∀ (f : GFml) (x : ByteArray), x ∈ frF f ↔ fvB x f = true
 | ⟨k, ar, nm, vars, args, kids⟩, x => by
  rw [frF, fvB, frA_iff, frLs_fv vars kids, Bool.or_eq_true, bA, has_mem]
  simp [and_comm]
theorem frLs_fv (vars : List ByteArray) : ∀ (l : List GFml) (out : List ByteArray) (x : ByteArray), x ∈ frLs vars l out ↔ (fvBL x l = true ∧ has vars x = false) ∨ x ∈ out
 | [], out, x => by rw [frLs, fvBL]; simp
 | y :: l, out, x => by
  rw [frLs, frLs_fv vars l, frV_iff, frF_fv y, fvBL, Bool.or_eq_true]
  constructor
  ·rintro (⟨h1, h2⟩ | ⟨h1, h2⟩ | h)
   ·exact .inl ⟨.inr h1, h2⟩
   ·exact .inl ⟨.inl h1, h2⟩
   ·exact .inr h
  ·rintro (⟨h1 | h1, h2⟩ | h)
   ·exact .inr (.inl ⟨h1, h2⟩)
   ·exact .inl ⟨h1, h2⟩
   ·exact .inr (.inr h)
end
theorem shaped_noA {f : GFml} (h : shapedP f = true) (h8 : f.Kind = 3) : f.Args = [] ∧ f.Vars = [] ∧ ∃ x, f.Kids = [x] := by
 have hv := shaped_no h (.inl h8)
 have hk := shaped_q1 h (.inr (.inr (.inr (.inr (.inr (.inr h8))))))
 refine ⟨?_, hv, ?_⟩
 ·simp only [shapedP, shp3, bA, dT] at h
  have h2 := h.2.1.1.1.2
  rw [h8] at h2
  simp [rulesP] at h2
  exact h2
 ·match hkk : f.Kids, hk with
  | [x], _ => exact ⟨x, rfl⟩
mutual
theorem nn_fv (s : ByteArray) : ∀ (f : GFml) (nt : Bool), shsF f = true → fvB s (nnF f nt) = fvB s f
 | ⟨k, ar, nm, vars, args, kids⟩, nt, h => by
  rw [shsF, bA] at h
  rw [nnF]
  by_cases h3 : k = 3
  ·obtain ⟨ha, hv, x, hx⟩ := shaped_noA h.2 h3
   simp only at ha hv hx
   subst ha hv hx h3
   have hsx : shsF x = true := by have := h.1; rw [shsFs, shsFs] at this; simpa using this
   simp only [beq_self_eq_true, cond_true, nnH]
   rw [nn_fv s x _ hsx, fvB, fvBL, fvBL]
   simp [has]
  ·have e3 : (k == 3) = false := by simpa using h3
   rw [e3]
   simp only [cond_false]
   cases hq : qk k with
   | true => simp only [cond_true]; rw [fvB, fvB, nn_fvL s kids nt h.1]
   | false =>
    simp only [cond_false]
    cases nt with
    | true => simp only [cond_true]; rw [fvB, fvBL, fvBL, fvB, fvB, nn_fvL s kids false h.1]; simp [has]
    | false => simp only [cond_false]; rw [fvB, fvB, nn_fvL s kids false h.1]
theorem nn_fvL (s : ByteArray) : ∀ (l : List GFml) (nt : Bool), shsFs l = true → fvBL s (nnL l nt) = fvBL s l
 | [], _, _ => by rw [nnL]
 | x :: l, nt, h => by
  rw [shsFs, bA] at h
  rw [nnL, fvBL, fvBL, nn_fv s x nt h.1, nn_fvL s l nt h.2]
end
theorem upV_out : ∀ (vars r : List ByteArray) (σ : Sb) (v : ByteArray), v ∉ vars → upV vars r σ v = σ v
 | [], _, _, _, _ => by simp [upV]
 | u :: l, [], _, _, _ => by simp [upV]
 | u :: l, w :: r, σ, v, h => by
  rw [upV, upV_out l r _ v (fun e => h (by simp [e])), up1, if_neg fun e => h (by simp [e])]
theorem upV_in : ∀ (vars r : List ByteArray) (σ : Sb) (v : ByteArray), vars.length = r.length → v ∈ vars → rnS (upV vars r σ) v ∈ r
 | [], _, _, _, _, h => by cases h
 | u :: l, [], _, _, h, _ => by simp at h
 | u :: l, w :: r, σ, v, hl, h => by
  rw [upV]
  by_cases hv : v ∈ l
  ·exact List.mem_cons_of_mem _ (upV_in l r _ v (by simpa using hl) hv)
  ·have e : v = u := (List.mem_cons.1 h).elim id fun h => (hv h).elim
   subst e
   unfold rnS
   rw [upV_out l r _ v hv, up1, if_pos rfl]
   simp
mutual
theorem ap_fv (s : ByteArray) : ∀ (f : GFml) (σ : Sb) (tk : List ByteArray) (n : Nat), fvB s (apF f σ tk n).1 = true → ∃ v, fvB v f = true ∧ rnS σ v = s
 | ⟨k, ar, nm, vars, args, kids⟩, σ, tk, n, h => by
  rw [apF] at h
  simp only [fvB, Bool.or_eq_true, bA, Bool.not_eq_true'] at h
  rcases h with h | ⟨h1, h2⟩
  ·obtain ⟨v, hv, e⟩ := List.mem_map.1 (has_mem.1 h)
   exact ⟨v, by rw [fvB, has_mem.2 hv, Bool.true_or], e⟩
  ·obtain ⟨v, hv, e⟩ := ap_fvL s kids _ _ _ h2
   have hn : v ∉ vars := fun hm => by
    have := upV_in vars (frL vars.length tk n).1 σ v (frL_len _ _ _).symm hm
    rw [e] at this
    exact has_not.1 h1 this
   refine ⟨v, by rw [fvB, hv, has_not.2 hn]; simp, ?_⟩
   rw [← e]; unfold rnS; rw [upV_out vars _ σ v hn]
theorem ap_fvL (s : ByteArray) : ∀ (l : List GFml) (σ : Sb) (tk : List ByteArray) (n : Nat), fvBL s (apL l σ tk n).1 = true → ∃ v, fvBL v l = true ∧ rnS σ v = s
 | [], σ, tk, n, h => by rw [apL] at h; simp only [fvBL] at h; cases h
 | x :: l, σ, tk, n, h => by
  rw [apL] at h
  simp only [fvBL, Bool.or_eq_true] at h
  rcases h with h | h
  ·obtain ⟨v, hv, e⟩ := ap_fv s x _ _ _ h
   exact ⟨v, by rw [fvBL, hv, Bool.true_or], e⟩
  ·obtain ⟨v, hv, e⟩ := ap_fvL s l _ _ _ h
   exact ⟨v, by rw [fvBL, hv, Bool.or_true], e⟩
end
theorem fr_nn {f : GFml} (hs : shsF f = true) (nt : Bool) (x : ByteArray) (h : x ∈ frF (nnF f nt)) : x ∈ frF f := by
 rw [frF_fv] at h ⊢; rwa [nn_fv x f nt hs] at h
mutual
theorem nn_oc : ∀ (f : GFml) (nt : Bool) (bd : List ByteArray) (out : List GSym), shsF f = true → ocF (nnF f nt) bd out = ocF f bd out
 | ⟨k, ar, nm, vars, args, kids⟩, nt, bd, out, h => by
  rw [shsF, bA] at h
  rw [nnF]
  by_cases h3 : k = 3
  ·obtain ⟨ha, hv, x, hx⟩ := shaped_noA h.2 h3
   simp only at ha hv hx
   subst ha hv hx h3
   have hsx : shsF x = true := by have := h.1; rw [shsFs, shsFs] at this; simpa using this
   simp only [beq_self_eq_true, cond_true, nnH]
   rw [nn_oc x _ bd out hsx, ocF, ocFs, ocFs]
   simp [bindsB]
  ·have e3 : (k == 3) = false := by simpa using h3
   rw [e3]
   simp only [cond_false]
   have same : ∀ (j : Int) (l : List GFml), (j == 0) = (k == 0) → bindsB ⟨j, ar, nm, vars, args, l⟩ = bindsB ⟨k, ar, nm, vars, args, kids⟩ → (∀ b o, ocFs l b o = ocFs kids b o) → ocF ⟨j, ar, nm, vars, args, l⟩ bd out = ocF ⟨k, ar, nm, vars, args, kids⟩ bd out := fun j l e1 e2 e3 => by
    rw [ocF, ocF, e1, e2, e3]
   cases hq : qk k with
   | true =>
    simp only [cond_true]
    refine same _ _ ?_ ?_ fun b o => nn_ocL kids nt b o h.1
    ·simp only [qk, Bool.or_eq_true, beq_iff_eq] at hq
     cases nt <;> rcases hq with ((rfl | rfl) | rfl) | rfl <;> rfl
    ·simp only [qk, Bool.or_eq_true, beq_iff_eq] at hq
     cases nt <;> rcases hq with ((rfl | rfl) | rfl) | rfl <;> rfl
   | false =>
    simp only [cond_false]
    cases nt with
    | true =>
     simp only [cond_true]
     rw [ocF]
     simp only [bindsB, show ((3 : Int) == 0) = false from rfl, Bool.false_and, cond_false, show ((3 : Int) == 8) = false from rfl, show ((3 : Int) == 9) = false from rfl, show ((3 : Int) == 11) = false from rfl, Bool.or_self]
     rw [ocFs, ocFs]
     exact same _ _ rfl rfl fun b o => nn_ocL kids false b o h.1
    | false => simp only [cond_false]; exact same _ _ rfl rfl fun b o => nn_ocL kids false b o h.1
theorem nn_ocL : ∀ (l : List GFml) (nt : Bool) (bd : List ByteArray) (out : List GSym), shsFs l = true → ocFs (nnL l nt) bd out = ocFs l bd out
 | [], _, _, _, _ => by rw [nnL]
 | x :: l, nt, bd, out, h => by
  rw [shsFs, bA] at h
  rw [nnL, ocFs, ocFs, nn_oc x nt bd out h.1, nn_ocL l nt bd _ h.2]
end
mutual
theorem ocF_mem : ∀ (f : GFml) (bd : List ByteArray) (out : List GSym) (y : GSym), y ∈ ocF f bd out ↔ y ∈ out ∨ y ∈ ocF f bd []
 | ⟨k, ar, nm, vars, args, kids⟩, bd, out, y => by
  rw [ocF, ocF]
  cases hc : (k == 0 && !(bd.any fun x => decide (x = nm))) with
  | true => simp
  | false => simp only [cond_false]; exact ocFs_mem kids _ out y
theorem ocFs_mem : ∀ (l : List GFml) (bd : List ByteArray) (out : List GSym) (y : GSym), y ∈ ocFs l bd out ↔ y ∈ out ∨ y ∈ ocFs l bd []
 | [], bd, out, y => by rw [ocFs, ocFs]; simp
 | x :: l, bd, out, y => by
  rw [ocFs, ocFs, ocFs_mem l bd (ocF x bd out), ocFs_mem l bd (ocF x bd []), ocF_mem x bd out, or_assoc]
end
mutual
def smF (N : Nat) : GFml → Bool
 | ⟨k, ar, nm, vars, args, kids⟩ => !((k == 8 || k == 9) && decide (4096 < N ^ vars.length)) && !(k == 10 && decide (4096 < N ^ (vars.length / 2))) && !(k == 11 && decide (16 < N ^ ar.toNat)) && smFs N kids
def smFs (N : Nat) : List GFml → Bool
 | [] => true
 | x :: l => smF N x && smFs N l
end
theorem arAt_snoc2 (s : ByteArray) (b : List GSym) (y : GSym) : arAt s (b ++ [y]) (b ++ [y]).length = if y.Name = s then some y.Arity else arAt s b b.length := by
 rw [lA, List.length_singleton, arAt, List.getElem?_append_right (Nat.le_refl _), Nat.sub_self]
 simp only [List.getElem?_cons_zero]
 split
 ·rfl
 ·have : ∀ j, j ≤ b.length → arAt s (b ++ [y]) j = arAt s b j := by
   intro j
   induction j with
   | zero => intro _; rfl
   | succ j ih => intro hj; rw [arAt, arAt, List.getElem?_append_left (by omega), ih (by omega)]
  exact this _ (Nat.le_refl _)
theorem arAt_none {s : ByteArray} {b : List GSym} (h : arAt s b b.length = none) : s ∉ b.map GSym.Name := by
 have key : ∀ j, j ≤ b.length → arAt s b j = none → ∀ i, i < j → ∀ y, b[i]? = some y → y.Name ≠ s := by
  intro j
  induction j with
  | zero => intro _ _ i hi; omega
  | succ j ih =>
   intro hj hn i hi y hy
   rw [arAt] at hn
   obtain ⟨z, hz⟩ := get_lt (show j < b.length by omega)
   rw [hz] at hn
   simp only at hn
   split at hn
   ·cases hn
   ·rename_i hne
    by_cases e : i = j
    ·subst e; rw [hz] at hy; rw [← Option.some.inj hy]; exact hne
    ·exact ih (by omega) hn i (by omega) y hy
 intro hm
 obtain ⟨y, hy, e⟩ := List.mem_map.1 hm
 obtain ⟨i, hi, hg⟩ := List.getElem_of_mem hy
 exact key _ (Nat.le_refl _) h i hi y (by rw [List.getElem?_eq_getElem hi, hg]) e
structure LB_ (N : Nat) (L : LT) (b : List GSym) (P : GSym → Prop) : Prop where
 bound : ∀ s m, arAt s b b.length = some m → 0 ≤ m ∧ lkT L s = some (N ^ m.toNat) ∧ N ^ m.toNat ≤ 4096
 free : ∀ s, arAt s b b.length = none → ∀ y, P y → y.Name = s → ∀ c, lkT L s = some c → c = N ^ y.Arity.toNat ∧ c ≤ 4096
theorem LB_.push {N : Nat} {L : LT} {b : List GSym} {P : GSym → Prop} (h : LB_ N L b P) (nm : ByteArray) (m : Nat) (hm : N ^ m ≤ 4096) : LB_ N (L ++ [(nm, N ^ m)]) (b ++ [⟨nm, m⟩]) P := by
 refine ⟨fun s k hk => ?_, fun s hs y hy e c hc => ?_⟩
 ·rw [arAt_snoc2] at hk
  rw [lkT_snoc]
  by_cases e : nm = s
  ·simp only [e, if_true] at hk ⊢
   obtain rfl := Option.some.inj hk
   exact ⟨by omega, by simp, by simpa using hm⟩
  ·simp only [e, if_false] at hk ⊢
   exact h.bound s k hk
 ·rw [arAt_snoc2] at hs
  rw [lkT_snoc] at hc
  by_cases e' : nm = s
  ·simp [e'] at hs
  ·simp only [e', if_false] at hs hc
   exact h.free s hs y hy e c hc
mutual
theorem okF_of (N : Nat) : ∀ (f : GFml) (b : List GSym) (L : LT) (P : GSym → Prop), shsF f = true → arF f b = true → smF N f = true → LB_ N L b P → (∀ y ∈ ocF f (b.map GSym.Name) [], P y) → okF N f L
 | ⟨k, ar, nm, vars, args, kids⟩, b, L, P, hs, ha, hf, hL, hP => by
  rw [shsF, bA] at hs
  rw [arF] at ha
  rw [smF] at hf
  simp only [bA, Bool.not_eq_true', Bool.and_eq_false_iff, Bool.or_eq_false_iff, beq_eq_false_iff_ne, dF, Nat.not_lt] at hf
  obtain ⟨⟨⟨f1, f2⟩, f3⟩, f4⟩ := hf
  rw [okF]
  refine ⟨fun h0 c hc => ?_, fun h8 => ?_, fun h10 => ?_, fun h11 => ?_, fun h0 => ?_⟩
  ·subst h0
   simp only [beq_self_eq_true, cond_true] at ha
   cases hat : arAt nm b b.length with
   | some m =>
    rw [hat] at ha
    simp only [arR, beq_iff_eq] at ha
    obtain ⟨m0, m1, m2⟩ := hL.bound nm m hat
    rw [m1] at hc
    obtain rfl := Option.some.inj hc
    rw [show args.length = m.toNat by omega]
    exact ⟨rfl, m2⟩
   | none =>
    have hn := arAt_none hat
    have hy : (⟨nm, args.length⟩ : GSym) ∈ ocF ⟨0, ar, nm, vars, args, kids⟩ (b.map GSym.Name) [] := by
     rw [ocF]
     have : ((b.map GSym.Name).any fun x => decide (x = nm)) = false := by
      rw [List.any_eq_false]; intro x hx; simp; intro e; subst e; exact hn hx
     rw [this]; simp
    have := hL.free nm hat _ (hP _ hy) rfl c hc
    simpa using this
  ·rcases f1 with f1 | f1
   ·omega
   ·exact f1
  ·rcases f2 with f2 | f2
   ·exact (f2 h10).elim
   ·exact f2
  ·rcases f3 with f3 | f3
   ·exact (f3 h11).elim
   ·exact f3
  ·have e0 : (k == 0) = false := by simpa using h0
   rw [e0] at ha
   simp only [cond_false] at ha
   rw [ocF, e0] at hP
   simp only [Bool.false_and, cond_false] at hP
   by_cases h8 : k = 8 ∨ k = 9
   ·have hb : bindsB ⟨k, ar, nm, vars, args, kids⟩ = true := by rcases h8 with rfl | rfl <;> rfl
    have hn : bindsN ⟨k, ar, nm, vars, args, kids⟩ = vars.length := by unfold bindsN; rw [if_pos h8]
    rw [hb] at ha hP
    rw [hn] at ha
    rw [if_pos h8]
    refine okFL_of N kids _ _ P hs.1 ha f4 (hL.push nm vars.length ?_) (by simpa using hP)
    rcases f1 with f1 | f1
    ·omega
    ·exact f1
   ·rw [if_neg h8]
    by_cases h11 : k = 11
    ·have hb : bindsB ⟨k, ar, nm, vars, args, kids⟩ = true := by subst h11; rfl
     have h0a := (by have := hs.2; simp only [shapedP, shp2, bA, dT] at this; exact this.1.2.1.1.2 : (0 : Int) ≤ ar)
     have hn : bindsN ⟨k, ar, nm, vars, args, kids⟩ = (ar.toNat : Nat) := by unfold bindsN; rw [if_neg h8, if_pos h11]; show ar = _; omega
     rw [hb] at ha hP
     rw [hn] at ha
     rw [if_pos h11]
     refine okFL_of N kids _ _ P hs.1 ha f4 (hL.push nm ar.toNat ?_) (by simpa using hP)
     rcases f3 with f3 | f3
     ·exact (f3 h11).elim
     ·omega
    ·have hb : bindsB ⟨k, ar, nm, vars, args, kids⟩ = false := by simp only [bindsB]; simp; omega
     rw [hb] at ha hP
     rw [if_neg h11]
     exact okFL_of N kids b L P hs.1 ha f4 hL hP
theorem okFL_of (N : Nat) : ∀ (l : List GFml) (b : List GSym) (L : LT) (P : GSym → Prop), shsFs l = true → arFs l b = true → smFs N l = true → LB_ N L b P → (∀ y ∈ ocFs l (b.map GSym.Name) [], P y) → okFL N l L
 | [], _, _, _, _, _, _, _, _ => by rw [okFL]; trivial
 | x :: l, b, L, P, hs, ha, hf, hL, hP => by
  rw [shsFs, bA] at hs
  rw [arFs, bA] at ha
  rw [smFs, bA] at hf
  rw [okFL]
  rw [ocFs] at hP
  exact ⟨okF_of N x b L P hs.1 ha.1 hf.1 hL fun y hy => hP y ((ocFs_mem l _ _ y).2 (.inl hy)), okFL_of N l b L P hs.2 ha.2 hf.2 hL fun y hy => hP y ((ocFs_mem l _ _ y).2 (.inr hy))⟩
end
theorem sem_node (N M : Nat) {k ar : Int} {nm : ByteArray} {vars args args' : List ByteArray} {kids kids' : List GFml} {T : TT} {V V' : VV} (hs : shapedP ⟨k, ar, nm, vars, args, kids⟩ = true)
  (ha : args'.map (val V') = args.map (val V)) (hl : args'.length = args.length)
  (hk : ∀ (ts : List Int) (T : TT), ts.length = vars.length → semH N M kids' T (V' ++ vars.zip ts) = semH N M kids T (V ++ vars.zip ts) ∧ semA N M kids' T (V' ++ vars.zip ts) = semA N M kids T (V ++ vars.zip ts) ∧ semO N M kids' T (V' ++ vars.zip ts) = semO N M kids T (V ++ vars.zip ts)) :
  sem N M ⟨k, ar, nm, vars, args', kids'⟩ T V' = sem N M ⟨k, ar, nm, vars, args, kids⟩ T V := by
 have hkb := kind_bd hs
 have hq : k = 0 ∨ k = 1 ∨ k = 2 ∨ k = 3 ∨ k = 4 ∨ k = 5 ∨ k = 6 ∨ k = 7 ∨ k = 8 ∨ k = 9 ∨ k = 10 ∨ k = 11 := by simp only at hkb; omega
 have h0 : vars = [] → ∀ T, semH N M kids' T V' = semH N M kids T V ∧ semA N M kids' T V' = semA N M kids T V ∧ semO N M kids' T V' = semO N M kids T V := by
  intro e T
  have := hk [] T (by rw [e]; rfl)
  simpa using this
 have hno : ∀ q : Int, k = q → (q = 3 ∨ q = 4 ∨ q = 5 ∨ q = 11) → vars = [] := fun q e hq => shaped_no hs (by simp only; omega)
 have hg : ∀ i, i < args.length → val V' (args'.getD i empB) = val V (args.getD i empB) := by
  intro i hi
  have := congrArg (fun l => l[i]?) ha
  simp only [List.getElem?_map] at this
  rw [List.getD_eq_getElem?_getD, List.getD_eq_getElem?_getD]
  rw [List.getElem?_eq_getElem hi, List.getElem?_eq_getElem (by omega)] at this ⊢
  simpa using this
 rw [sem, sem]
 rcases hq with rfl | rfl | rfl | rfl | rfl | rfl | rfl | rfl | rfl | rfl | rfl | rfl
 ·simp only [if_true, ha]
 ·have h2 := shaped_eq2 hs (.inl rfl)
  simp only at h2
  simp only [hg 0 (by omega), hg 1 (by omega)]; rfl
 ·have h2 := shaped_eq2 hs (.inr rfl)
  simp only at h2
  simp only [hg 0 (by omega), hg 1 (by omega)]; rfl
 ·simp only [(h0 (hno 3 rfl (by omega)) T).1]; rfl
 ·simp only [(h0 (hno 4 rfl (by omega)) T).2.1]; rfl
 ·simp only [(h0 (hno 5 rfl (by omega)) T).2.2]; rfl
 ·simp only [fun i => (hk (tup N vars.length i) T (tup_len _ _ _)).1]; rfl
 ·simp only [fun i => (hk (tup N vars.length i) T (tup_len _ _ _)).1]; rfl
 ·simp only [ha, fun i X => (hk (tup N vars.length i) X (tup_len _ _ _)).1]; rfl
 ·simp only [ha, fun i X => (hk (tup N vars.length i) X (tup_len _ _ _)).1]; rfl
 ·have h2 := shaped_tc hs rfl
  simp only at h2
  simp only [ha, fun x y => (hk (tup N (vars.length / 2) x ++ tup N (vars.length / 2) y) T (by rw [lA, tup_len, tup_len]; omega)).1]; rfl
 ·simp only [fun X => (h0 (hno 11 rfl (by omega)) X).1]; rfl
section
variable (N M : Nat) (a b : ByteArray)
end
section
variable (a b : ByteArray)
end
theorem shsFs_all : ∀ l : List GFml, shsFs l = l.all shsF
 | [] => by rw [shsFs]; rfl
 | x :: l => by rw [shsFs, List.all_cons, shsFs_all l]
theorem fvBL_any (s : ByteArray) : ∀ l : List GFml, fvBL s l = l.any (fvB s)
 | [] => by rw [fvBL]; rfl
 | x :: l => by rw [fvBL, List.any_cons, fvBL_any s l]
theorem arFs_all (b : List GSym) : ∀ l : List GFml, arFs l b = l.all fun x => arF x b
 | [] => by rw [arFs]; rfl
 | x :: l => by rw [arFs, List.all_cons, arFs_all b l]
theorem posFs_all (s : ByteArray) (odd part : Bool) : ∀ l : List GFml, posFs s l odd part = l.all fun x => posF s x odd part
 | [] => by rw [posFs]; rfl
 | x :: l => by rw [posFs, List.all_cons, posFs_all s odd part l]
theorem grFs_all : ∀ l : List GFml, grFs l = l.all grF
 | [] => by rw [grFs]; rfl
 | x :: l => by rw [grFs, List.all_cons, grFs_all l]
theorem ocFs_in (bd : List ByteArray) (y : GSym) : ∀ l : List GFml, y ∈ ocFs l bd [] ↔ ∃ x ∈ l, y ∈ ocF x bd []
 | [] => by rw [ocFs]; simp
 | x :: l => by
  rw [ocFs, ocFs_mem, ocFs_in bd y l]
  simp
structure Good (f g : GFml) : Prop where
 shs : shsF g = true
 nd : ndF g ≤ ndF f
 dp : dpF g ≤ dpF f
 fv : ∀ s, fvB s g = true → fvB s f = true
 ar : ∀ b, arF f b = true → arF g b = true
 pos : ∀ s odd part, posF s f odd part = true → posF s g odd part = true
 gr : grF f = true → grF g = true
 oc : ∀ y bd, y ∈ ocF g bd [] → y ∈ ocF f bd []
 ok : f.Ok → g.Ok
 sem : ∀ N M T V, 1 ≤ N → sem N M g T V = sem N M f T V
theorem Good.refl {f : GFml} (h : shsF f = true) : Good f f := ⟨h, Nat.le_refl _, Nat.le_refl _, fun _ h => h, fun _ h => h, fun _ _ _ h => h, id, fun _ _ h => h, id, fun _ _ _ _ _ => rfl⟩
theorem Good.trans {f g h : GFml} (a : Good f g) (b : Good g h) : Good f h :=
 ⟨b.shs, Nat.le_trans b.nd a.nd, Nat.le_trans b.dp a.dp, fun s h => a.fv s (b.fv s h), fun s h => b.ar s (a.ar s h), fun s o p h => b.pos s o p (a.pos s o p h), fun h => b.gr (a.gr h), fun y bd h => a.oc y bd (b.oc y bd h), fun h => b.ok (a.ok h), fun N M T V h => (b.sem N M T V h).trans (a.sem N M T V h)⟩
def GoodL : List GFml → List GFml → Prop
 | [], [] => True
 | x :: l, y :: m => Good x y ∧ GoodL l m
 | _, _ => False
theorem GoodL.len : ∀ {l m : List GFml}, GoodL l m → m.length = l.length
 | [], [], _ => rfl
 | x :: l, y :: m, h => by rw [List.length_cons, List.length_cons, GoodL.len h.2]
theorem GoodL.all {p q : GFml → Bool} (hp : ∀ x y, Good x y → p x = true → q y = true) : ∀ {l m : List GFml}, GoodL l m → l.all p = true → m.all q = true
 | [], [], _, _ => rfl
 | x :: l, y :: m, h, k => by
  rw [List.all_cons, bA] at k ⊢
  exact ⟨hp x y h.1 k.1, GoodL.all hp h.2 k.2⟩
theorem GoodL.mem : ∀ {l m : List GFml}, GoodL l m → ∀ y ∈ m, ∃ x ∈ l, Good x y
 | [], [], h, z, hz => by cases hz
 | x :: l, y :: m, h, z, hz => by
  rcases List.mem_cons.1 hz with rfl | hz
  ·exact ⟨x, List.mem_cons_self .., h.1⟩
  ·obtain ⟨w, hw, g⟩ := GoodL.mem h.2 z hz
   exact ⟨w, List.mem_cons_of_mem _ hw, g⟩
theorem GoodL.nd : ∀ {l m : List GFml}, GoodL l m → ndFs m ≤ ndFs l
 | [], [], _ => Nat.le_refl _
 | x :: l, y :: m, h => by have h1 := h.1.nd; have h2 := GoodL.nd h.2; rw [ndFs, ndFs]; omega
theorem GoodL.dp : ∀ {l m : List GFml}, GoodL l m → dpFs m ≤ dpFs l
 | [], [], _ => Nat.le_refl _
 | x :: l, y :: m, h => by have h1 := h.1.dp; have h2 := GoodL.dp h.2; rw [dpFs, dpFs]; omega
theorem GoodL.sem {N M : Nat} (hN : 1 ≤ N) (T : TT) (V : VV) : ∀ {l m : List GFml}, GoodL l m → semH N M m T V = semH N M l T V ∧ semA N M m T V = semA N M l T V ∧ semO N M m T V = semO N M l T V
 | [], [], _ => ⟨rfl, rfl, rfl⟩
 | x :: l, y :: m, h => by
  obtain ⟨_, h2, h3⟩ := GoodL.sem hN T V h.2
  have h1 := h.1.sem N M T V hN
  rw [semH, semH, semA, semA, semO, semO, h1, h2, h3]
  exact ⟨rfl, rfl, rfl⟩
theorem shaped_len {k ar : Int} {nm : ByteArray} {vars args : List ByteArray} {kids kids' : List GFml} (hl : kids'.length = kids.length) (h : shapedP ⟨k, ar, nm, vars, args, kids⟩ = true) : shapedP ⟨k, ar, nm, vars, args, kids'⟩ = true := by
 simp only [shapedP, shp1, shp2, shp3, bA, hl] at h ⊢
 exact h
theorem Good.node {k ar : Int} {nm : ByteArray} {vars args : List ByteArray} {kids kids' : List GFml} (hs : shapedP ⟨k, ar, nm, vars, args, kids⟩ = true) (h : GoodL kids kids') (hk : shsFs kids = true) : Good ⟨k, ar, nm, vars, args, kids⟩ ⟨k, ar, nm, vars, args, kids'⟩ where
 shs := by
  rw [shsF, bA, shsFs_all]
  exact ⟨h.all (p := shsF) (fun x y g _ => g.shs) (by rw [← shsFs_all]; exact hk), shaped_len h.len hs⟩
 nd := by rw [ndF, ndF]; have := h.nd; omega
 dp := by rw [dpF, dpF]; have := h.dp; omega
 fv := fun s h1 => by
  rw [fvB, Bool.or_eq_true, bA, fvBL_any, List.any_eq_true] at h1 ⊢
  rcases h1 with h1 | ⟨h1, y, hy, h2⟩
  ·exact .inl h1
  ·obtain ⟨x, hx, g⟩ := h.mem y hy
   exact .inr ⟨h1, x, hx, g.fv s h2⟩
 ar := fun b h1 => by
  rw [arF] at h1 ⊢
  cases hk0 : k == 0 with
  | true => rw [hk0] at h1; exact h1
  | false =>
   rw [hk0, cond_false, arFs_all] at h1
   rw [cond_false, arFs_all]
   exact h.all (fun x y g hx => g.ar _ hx) h1
 pos := fun s odd part h1 => by
  rw [posF] at h1 ⊢
  cases hk0 : k == 0 with
  | true => rw [hk0] at h1; exact h1
  | false =>
   rw [hk0, cond_false] at h1
   rw [cond_false]
   have hb : bindsB ⟨k, ar, nm, vars, args, kids'⟩ = bindsB ⟨k, ar, nm, vars, args, kids⟩ := rfl
   rw [hb]
   cases hb2 : (bindsB ⟨k, ar, nm, vars, args, kids⟩ && decide (nm = s)) with
   | true => rfl
   | false =>
    rw [hb2, cond_false, posFs_all] at h1
    rw [cond_false, posFs_all]
    exact h.all (fun x y g hx => g.pos _ _ _ hx) h1
 gr := fun h1 => by
  rw [grF, bA, grFs_all] at h1 ⊢
  refine ⟨?_, h.all (fun x y g hx => g.gr hx) h1.2⟩
  have h2 := h1.1
  cases hk8 : k == 8 with
  | false => rfl
  | true =>
   rw [hk8, Bool.true_and, Bool.not_not] at h2
   rw [Bool.true_and, Bool.not_not]
   cases kids with
   | nil =>
    cases kids' with
    | nil => exact h2
    | cons y m => exact h.elim
   | cons x l =>
    cases kids' with
    | nil => exact h.elim
    | cons y m =>
     rw [posH] at h2 ⊢
     exact h.1.pos _ _ _ h2
 oc := fun y bd h1 => by
  rw [ocF] at h1 ⊢
  cases hc : (k == 0 && !(bd.any fun x => decide (x = nm))) with
  | true => rw [hc] at h1; exact h1
  | false =>
   rw [hc, cond_false, ocFs_in] at h1
   rw [cond_false, ocFs_in]
   obtain ⟨z, hz, h2⟩ := h1
   obtain ⟨x, hx, g⟩ := h.mem z hz
   exact ⟨x, hx, g.oc _ _ h2⟩
 ok := fun ho => by
  obtain ⟨h1, h6, h7⟩ := ho
  refine .mk h1 (by simp only at h6 ⊢; rw [h.len]; exact h6) fun y hy => ?_
  obtain ⟨x, hx, g⟩ := h.mem y hy
  exact g.ok (h7 x hx)
 sem := fun N M T V hN => sem_node N M hs rfl rfl fun ts T hl => h.sem hN T _
def cst (f : GFml) : Bool := f.Kids.length == 0 && (f.Kind == 4 || f.Kind == 5)
theorem cloR_succ (R : Nat → Nat → Bool) (L a k y : Nat) : cloR R L a (k + 1) y = (cloR R L a k y || (List.range L).any fun x => cloR R L a k x && R x y) := by rw [cloR]
theorem cloR_mono (R : Nat → Nat → Bool) (L a : Nat) : ∀ (j k y : Nat), cloR R L a k y = true → cloR R L a (k + j) y = true
 | 0, k, y, h => h
 | j + 1, k, y, h => by rw [← Nat.add_assoc, cloR_succ, cloR_mono R L a j k y h, Bool.true_or]
def clT (R : Nat → Nat → Bool) (L a k : Nat) : List Bool := (List.range L).map (cloR R L a k)
theorem clT_len (R : Nat → Nat → Bool) (L a k : Nat) : (clT R L a k).length = L := by simp [clT]
theorem clT_eq {R : Nat → Nat → Bool} {L a j k : Nat} : clT R L a j = clT R L a k ↔ ∀ x, x < L → cloR R L a j x = cloR R L a k x := by
 unfold clT
 rw [List.map_inj_left]
 simp
theorem any_range_congr {L : Nat} {P Q : Nat → Bool} (h : ∀ x, x < L → P x = Q x) : (List.range L).any P = (List.range L).any Q := by
 rw [Bool.eq_iff_iff, List.any_eq_true, List.any_eq_true]
 constructor <;> (rintro ⟨x, hx, hp⟩; have := h x (List.mem_range.1 hx); exact ⟨x, hx, by rw [← hp, this]⟩)
theorem clT_step {R : Nat → Nat → Bool} {L a k : Nat} (h : clT R L a (k + 1) = clT R L a k) : clT R L a (k + 2) = clT R L a (k + 1) := by
 rw [clT_eq] at h ⊢
 intro y hy
 rw [cloR_succ R L a (k + 1) y, h y hy, any_range_congr (Q := fun x => cloR R L a k x && R x y) fun x hx => by rw [h x hx], ← cloR_succ, h y hy]
theorem clT_stay {R : Nat → Nat → Bool} {L a k : Nat} (h : clT R L a (k + 1) = clT R L a k) : ∀ j, clT R L a (k + j) = clT R L a k ∧ clT R L a (k + j + 1) = clT R L a (k + j)
 | 0 => ⟨rfl, h⟩
 | j + 1 => by
  obtain ⟨h1, h2⟩ := clT_stay h j
  exact ⟨h2.trans h1, clT_step h2⟩
theorem getD_map_range (L : Nat) (P : Nat → Bool) (i : Nat) : ((List.range L).map P).getD i false = (decide (i < L) && P i) := by
 rw [List.getD_eq_getElem?_getD, List.getElem?_map]
 by_cases h : i < L
 ·rw [List.getElem?_range h]; simp [h]
 ·rw [List.getElem?_eq_none (by simpa using h)]; simp [h]
theorem clT_grow (R : Nat → Nat → Bool) (L a : Nat) : ∀ k, (∃ j, j < k ∧ clT R L a (j + 1) = clT R L a j) ∨ k ≤ cntB (clT R L a k)
 | 0 => .inr (Nat.zero_le _)
 | k + 1 => by
  by_cases e : clT R L a (k + 1) = clT R L a k
  ·exact .inl ⟨k, Nat.lt_succ_self k, e⟩
  ·rcases clT_grow R L a k with ⟨j, hj, h⟩ | h
   ·exact .inl ⟨j, by omega, h⟩
   ·refine .inr ?_
    have := cnt_lt (clT R L a k) (clT R L a (k + 1)) (by rw [clT_len, clT_len]) (fun i hi => by
     rw [clT, getD_map_range, bA] at hi ⊢
     exact ⟨hi.1, cloR_mono R L a 1 k i hi.2⟩) fun x => e x.symm
    omega
theorem clo_all (R : Nat → Nat → Bool) (L a m y : Nat) (hy : y < L) (h : cloR R L a m y = true) : cloR R L a L y = true := by
 rcases clT_grow R L a (L + 1) with ⟨j, hj, hs⟩ | hc
 ·have key : ∀ i, cloR R L a (j + i) y = cloR R L a j y := fun i => clT_eq.1 (clT_stay hs i).1 y hy
  have hL : cloR R L a L y = cloR R L a j y := by have := key (L - j); rwa [show j + (L - j) = L by omega] at this
  rw [hL]
  by_cases hm : m ≤ j
  ·have := cloR_mono R L a (j - m) m y h; rwa [show m + (j - m) = j by omega] at this
  ·have := key (m - j); rw [show j + (m - j) = m by omega] at this; rw [← this]; exact h
 ·have := cnt_le (clT R L a (L + 1)); rw [clT_len] at this; omega
structure BI (R : Nat → Nat → Bool) (L a : Nat) (met : List Bool) (todo : List Nat) : Prop where
 len : met.length = L
 td : ∀ x ∈ todo, met.getD x false = true
 sound : ∀ y, met.getD y false = true → ∃ k, cloR R L a k y = true
 start : met.getD a false = true
 closed : ∀ x, met.getD x false = true → x ∉ todo → ∀ y, y < L → R x y = true → met.getD y false = true
structure BJ (R : Nat → Nat → Bool) (L a : Nat) (met : List Bool) (todo : List Nat) (x j : Nat) : Prop where
 len : met.length = L
 td : ∀ x ∈ todo, met.getD x false = true
 sound : ∀ y, met.getD y false = true → ∃ k, cloR R L a k y = true
 start : met.getD a false = true
 closed : ∀ x', met.getD x' false = true → x' ∉ todo → x' ≠ x → ∀ y, y < L → R x' y = true → met.getD y false = true
 here : ∀ y, y < j → R x y = true → met.getD y false = true
 xm : met.getD x false = true
section
variable {R : Nat → Nat → Bool} {L a : Nat} {met : List Bool} {todo : List Nat} {x j : Nat}
theorem BJ.no (h : BJ R L a met todo x j) (hn : met.getD j false = true ∨ R x j = false) : BJ R L a met todo x (j + 1) := by
 refine ⟨h.len, h.td, h.sound, h.start, h.closed, fun y hy hr => ?_, h.xm⟩
 by_cases e : y = j
 ·subst e
  rcases hn with hn | hn
  ·exact hn
  ·rw [hn] at hr; cases hr
 ·exact h.here y (by omega) hr
theorem BJ.done (h : BJ R L a met todo x L) : BI R L a met todo :=
 ⟨h.len, h.td, h.sound, h.start, fun x' h1 h2 y hy hr => by
  by_cases e : x' = x
  ·subst e; exact h.here y hy hr
  ·exact h.closed x' h1 h2 e y hy hr⟩
theorem BI.fin (h : BI R L a met []) (y : Nat) (hy : y < L) : met.getD y false = cloR R L a L y := by
 rw [Bool.eq_iff_iff]
 constructor
 ·intro hm
  obtain ⟨k, hk⟩ := h.sound y hm
  exact clo_all R L a k y hy hk
 ·have key : ∀ k y, y < L → cloR R L a k y = true → met.getD y false = true := by
   intro k
   induction k with
   | zero =>
    intro y hy hc
    rw [cloR, beq_iff_eq] at hc
    rw [hc]; exact h.start
   | succ k ih =>
    intro y hy hc
    rw [cloR_succ, Bool.or_eq_true] at hc
    rcases hc with hc | hc
    ·exact ih y hy hc
    ·obtain ⟨x, hx, hc⟩ := List.any_eq_true.1 hc
     rw [bA] at hc
     exact h.closed x (ih x (List.mem_range.1 hx) hc.1) (by simp) y hy hc.2
  exact key L y hy
end
theorem Tri.reorder {P : Program} {f : FuncId} {args : List AV} {ah ah' : AH} {Φ Ψ : AEnd → AH → Prop} (h : Tri P f args ah Φ) (p : ah'.Perm ah) (k : ∀ x h, Φ x h → ∃ h', Ψ x h' ∧ h.Perm h') : Tri P f args ah' Ψ :=
 ⟨h.1, fun Fr w vs hst hrel => ((permPre h p).2 Fr w vs hst hrel).mono fun e w' he => he.reorder k⟩
theorem perm_kid {α : Type} (x y : α) (W A P R Q : List α) : (x :: (W ++ (A ++ (P ++ (y :: R ++ Q))))).Perm (y :: (W ++ R) ++ x :: (A ++ (P ++ Q))) := by
 classical
 rw [List.perm_iff_count]
 intro a
 simp only [List.count_cons, List.count_append]
 omega
theorem nownL_app : ∀ a b : List NT, nownL (a ++ b) = nownL a ++ nownL b
 | [], b => by rw [nownL]; rfl
 | n :: a, b => by rw [List.cons_append, nownL, nownL, nownL_app a b, List.append_assoc]
def NT.put (n : NT) (i : Nat) (k : NT) : NT := .mk n.b n.f n.m (n.kids.set i k)
theorem NT.put_b (n : NT) (i : Nat) (k : NT) : (n.put i k).b = n.b := rfl
theorem NT.put_f (n : NT) (i : Nat) (k : NT) : (n.put i k).f = n.f := rfl
theorem NT.put_m (n : NT) (i : Nat) (k : NT) : (n.put i k).m = n.m := rfl
theorem NT.put_kids (n : NT) (i : Nat) (k : NT) : (n.put i k).kids = n.kids.set i k := rfl
theorem set_of_mid {α : Type} {l : List α} {i : Nat} {x : α} (h : l[i]? = some x) (y : α) : l = l.take i ++ x :: l.drop (i + 1) ∧ l.set i y = l.take i ++ y :: l.drop (i + 1) :=
 ⟨(mem_split h).1, (mem_split h).2 y⟩
theorem map_set_same {α β : Type} {g : α → β} {l : List α} {i : Nat} {x y : α} (h : l[i]? = some x) (e : g y = g x) : (l.set i y).map g = l.map g := by
 obtain ⟨h1, h2⟩ := set_of_mid h y
 rw [h2]
 conv => rhs; rw [h1]
 simp only [List.map_append, List.map_cons, e]
theorem hH_kid (bw : Nat) (s : WS) {n k : NT} {i : Nat} (h : n.kids[i]? = some k) : ∃ rest : AH, (hH bw s n).Perm (hH bw s k ++ n.bx :: rest) ∧ ∀ (s' : WS) (k' : NT), k'.b = k.b → (hH bw s' k' ++ n.bx :: rest).Perm (hH bw s' (n.put i k')) := by
 have key : ∀ (s' : WS) (k' : NT), k'.b = k.b → (hH bw s' (n.put i k')).Perm (hH bw s' k' ++ n.bx :: (n.m.own ++ (nownL (n.kids.take i) ++ nownL (n.kids.drop (i + 1))))) := fun s' k' hb => by
  have hbx : (n.put i k').bx = n.bx := by
   unfold NT.bx; rw [NT.put_b, NT.put_f, NT.put_m, NT.put_kids, map_set_same h hb]
  unfold hH NT.rest
  rw [hbx, NT.put_m, NT.put_kids, (set_of_mid h k').2, nownL_app, nownL, nown_eq]
  exact perm_kid n.bx k'.bx (wH bw s') n.m.own (nownL (n.kids.take i)) k'.rest _
 refine ⟨_, ?_, fun s' k' hb => (key s' k' hb).symm⟩
 have := key s k rfl
 have e : n.put i k = n := by
  cases n with
  | mk b f m kids =>
   show NT.mk b f m (kids.set i k) = _
   have h' : kids[i]? = some k := h
   rw [(set_of_mid h' k).2, ← (set_of_mid h' k).1]
 rwa [e] at this
def GPost (bw : Nat) (n : NT) (Q : AEnd → WS → NT → AH → Prop) : AEnd → AH → Prop := fun x h => ∃ s' n' Z, h = Z ++ hH bw s' n' ∧ n'.b = n.b ∧ n'.f = n.f ∧ Q x s' n' Z
theorem HPost.g {bw : Nat} {s : WS} {n : NT} {K : NT → Prop} {v : AV} {Y : AH} {x : AEnd} {h : AH} (hp : HPost bw s n K v Y x h) : GPost bw n (fun x s' n' Z => x = .ret v ∧ Z = Y ∧ Same s s' ∧ K n') x h := by
 obtain ⟨e, s', n', rfl, hs, hb, hf, hk⟩ := hp
 exact ⟨s', n', Y, rfl, hb, hf, e, rfl, hs, hk⟩
theorem GPost.h {bw : Nat} {s : WS} {n : NT} {K : NT → Prop} {v : AV} {Y : AH} {x : AEnd} {h : AH} (hp : GPost bw n (fun x s' n' Z => x = .ret v ∧ Z = Y ∧ Same s s' ∧ K n') x h) : HPost bw s n K v Y x h := by
 obtain ⟨s', n', Z, rfl, hb, hf, e, rfl, hs, hk⟩ := hp
 exact ⟨e, s', n', rfl, hs, hb, hf, hk⟩
theorem kidTri {P : Program} {bw : Nat} {s : WS} {n k : NT} {i : Nat} (h : n.kids[i]? = some k) {f : FuncId} {args : List AV} {Y : AH} {Q : AEnd → WS → NT → AH → Prop} (t : Tri P f args (Y ++ hH bw s k) (GPost bw k Q)) :
  Tri P f args (Y ++ hH bw s n) (GPost bw n fun x s' n' Z => ∃ k', n' = n.put i k' ∧ k'.b = k.b ∧ k'.f = k.f ∧ Q x s' k' Z) := by
 obtain ⟨rest, p1, p2⟩ := hH_kid bw s h
 refine Tri.reorder (t.behind (n.bx :: rest)) ((p1.append_left Y).trans (by rw [List.append_assoc])) ?_
 rintro x hh ⟨_, ⟨s', k', Z, rfl, hb, hf, hq⟩, rfl⟩
 exact ⟨Z ++ hH bw s' (n.put i k'), ⟨s', n.put i k', Z, rfl, rfl, rfl, k', rfl, hb, hf, hq⟩, by rw [List.append_assoc]; exact (p2 s' k' hb).append_left Z⟩
theorem kidH {P : Program} {bw : Nat} {s : WS} {n k : NT} {i : Nat} (h : n.kids[i]? = some k) {f : FuncId} {args : List AV} {Y Y' : AH} {K K' : NT → Prop} {v : AV} (t : Tri P f args (Y ++ hH bw s k) (HPost bw s k K v Y'))
  (hK : ∀ k', k'.b = k.b → k'.f = k.f → K k' → K' (n.put i k')) : Tri P f args (Y ++ hH bw s n) (HPost bw s n K' v Y') :=
 (kidTri h (t.mono fun _ _ q => q.g)).mono fun x hh ⟨s', n', Z, e1, e2, e3, k', e4, e5, e6, e7, e8, e9, e10⟩ => ⟨e7, s', n', by rw [e1, e8], e9, e2, e3, by rw [e4]; exact hK k' e5 e6 e10⟩
theorem KOkL_set {N M : Nat} {T0 : TT} {k' : NT} (hk : KOk N M T0 k') : ∀ {l : List NT} {i : Nat}, KOkL N M T0 l → KOkL N M T0 (l.set i k')
 | [], i, h => by cases i <;> exact h
 | x :: l, 0, h => by rw [KOkL] at h; rw [sB, KOkL]; exact ⟨hk, h.2⟩
 | x :: l, i + 1, h => by rw [KOkL] at h; rw [sA, KOkL]; exact ⟨h.1, KOkL_set hk h.2⟩
theorem KOk_put {N M : Nat} {T0 : TT} {n k k' : NT} {i : Nat} (h : KOk N M T0 n) (hi : n.kids[i]? = some k) (hf : k'.f = k.f) (hk : KOk N M T0 k') : KOk N M T0 (n.put i k') := by
 rw [KOk_eq] at h ⊢
 refine ⟨h.1, ?_, KOkL_set hk h.2.2⟩
 rw [NT.put_kids, map_set_same hi hf]; exact h.2.1
theorem KOk_kid {N M : Nat} {T0 : TT} {n : NT} (h : KOk N M T0 n) {i : Nat} {x : GFml} (hx : n.f.Kids[i]? = some x) : ∃ k, n.kids[i]? = some k ∧ k.f = x ∧ KOk N M T0 k := by
 rw [KOk_eq] at h
 have hl : n.kids.length = n.f.Kids.length := by rw [← h.2.1, lM]
 obtain ⟨k, hk⟩ := get_lt (show i < n.kids.length by have := (List.getElem?_eq_some_iff.1 hx).1; omega)
 refine ⟨k, hk, ?_, KOkL_mem h.2.2 k (lG hk)⟩
 have : (n.kids.map NT.f)[i]? = some k.f := by rw [List.getElem?_map, hk]; rfl
 rw [h.2.1, hx] at this
 exact (Option.some.inj this).symm
theorem tup_zero {n : Nat} : ∀ m, tup n m 0 = List.replicate m 0
 | 0 => rfl
 | m + 1 => by rw [tup, Nat.zero_div, Nat.zero_mod, tup_zero m, List.replicate_succ']; rfl
def HoldsAt (bw : Nat) (K : NT → Prop) (s : WS) (n : NT) (names : List ByteArray) (t : List Int) (v : Bool) : Prop :=
 ∀ (s' : WS) (n' : NT), s'.Ok → s'.N = s.N → s'.base = s.base → s'.ts = s.ts → s'.ns = s.ns ++ names → s'.vs = s.vs ++ t → n'.b = n.b → n'.f = n.f → K n' →
  Tri Tryz.prog 155 [.ref bw 0, .ref n'.b 0] (hH bw s' n') (HPost bw s' n' K (.bool v) [])
theorem tup_next (b n m i : Nat) (hn : 1 ≤ n ∧ n ≤ 64) (hm : m ≤ 100000) (hi : i < n ^ m) :
  Tri Tryz.prog 193 [.osl b m m, .int .i64 n] [.row b ((tup n m i).map iav)] (D (.bool (decide (i + 1 < n ^ m))) [.row b ((tup n m ((i + 1) % n ^ m)).map iav)]) := by
 have h := ref_next b m n (tup n m i) (tup_len n m i) hn (fun x hx => tup_mem (by omega) m i x hx) hm
 rw [nxR_tup (by omega) m i hi] at h
 simpa using h
theorem w_some (bw : Nat) (K : NT → Prop) (φ : Nat → Bool) (nt : Bool) (n : NT) (s : WS) (names : List ByteArray) (hs : s.Ok) (hn : s.ns.length + names.length ≤ 100000) (hk : K n)
  (H : ∀ i, i < s.N ^ names.length → HoldsAt bw K s n names (tup s.N names.length i) (φ i)) :
  Tri Tryz.prog 178 [.ref bw 0, strs names, .ref n.b 0, .bool nt] (hH bw s n) (HPost bw s n K (.bool ((List.range (s.N ^ names.length)).any fun i => φ i != nt)) []) := by
 have hMx : (some (AV.int .i64 (names.map AV.str).length)) = some (.int .i64 (names.length : Nat)) := by rw [lM]
 have hL : 0 < s.N ^ names.length := Nat.pow_pos (by have := hs.n1; omega)
 generalize hLL : s.N ^ names.length = L at *
 refine Tri.enter 27 Tryz.func178 rfl rfl rfl rfl fun Fr w0 => ?_
 repeat' (first | refine AW.re 0 1 ?_ | refine AW.go ?_ | fail)
 repeat' (first | (refine xS 1 2 ?_; refine AL.makeSlice (n := names.length) (e := 3) (c := .int .i64 0) (z := .int .i64 0) (bytes := 8) hMx hMx (by kernel_rfl) rfl (by omega) (by omega) rfl fun bt => ?_; refine xN 1 ?_) | refine AW.go ?_ | fail)
 refine AW.prune [0, 1, 2, 3, 9] (AW.loop (fun mz af h => ∃ (i : Nat) (s' : WS) (n' : NT), i < L ∧ mz = L - i ∧ af = [(0, .ref bw 0), (1, strs names), (2, .ref n.b 0), (3, .bool nt), (9, .osl bt names.length names.length)] ∧ h = .row bt ((tup s.N names.length i).map iav) :: hH bw s' n' ∧ Same s s' ∧ n'.b = n.b ∧ n'.f = n.f ∧ K n' ∧ ((List.range i).any fun i => φ i != nt) = false) L ⟨0, s, n, hL, rfl, rfl, by rw [tup_zero, List.map_replicate]; rfl, Same.refl hs, rfl, rfl, hk, rfl⟩ ?_)
 rintro mz af h ⟨i, s1, n1, hi, rfl, rfl, rfl, sm, nb, nf, hk1, he⟩
 have htl := tup_len s.N names.length i
 have hW := w_With_own bw K (φ i) n1 s1 names (tup s.N names.length i) bt names.length [] sm.ok htl (by rw [sm.ns]; exact hn) (fun x hx => by rw [sm.N]; exact tup_mem (by have := hs.n1; omega) _ _ x hx)
  (fun s' h1 h2 h3 h4 h5 h6 => H i (by rw [hLL] at *; exact hi) s' n1 h1 (h2.trans sm.N) (h3.trans sm.base) (h4.trans sm.ts) (by rw [h5, sm.ns]) (by rw [h6, sm.vs]) nb nf hk1)
 rw [htl, List.append_nil, nb] at hW
 refine AW.block ?_
 refine AW.seq ?_
 repeat' (first | (refine xS 2 4 ?_; (refine AL.callQ rfl rfl hW rfl ?_ ?_; rotate_left; rintro _ _ ⟨e, _⟩; cases e; rintro _ _ ⟨e, s2, n2, rfl, sm2, nb2, nf2, hk2⟩; injection e with e; subst e) <;> refine AL.es 1 ?_ <;> (refine AL.d AOp.bn ?_) <;> refine AL.nil ?_) | refine AW.re 3 1 ?_ | refine AW.jj (fun hb => ?_) (fun hb => ?_) | refine AW.go ?_ | fail)
 ·refine AW.ret_drop rfl (List.sublist_cons_self _ _) ⟨congrArg (fun b => AEnd.ret (AV.bool b)) ?_, s2, n2, rfl, sm.trans sm2, nb2.trans nb, nf2.trans nf, hk2⟩
  symm
  rw [List.any_eq_true]
  exact ⟨i, List.mem_range.2 hi, hb⟩
 ·have hN2 : s2.N = s.N := by rw [sm2.N, sm.N]
  have he2 : ((List.range (i + 1)).any fun i => φ i != nt) = false := by
   have h1 : (φ i != nt) = false := hb
   rw [List.range_succ, List.any_append, he, List.any_cons, h1]; rfl
  have hX : Tri Tryz.prog 193 [.osl bt names.length names.length, .int .i64 s2.N] (.row bt ((tup s.N names.length i).map iav) :: hH bw s2 n2) (D (.bool (decide (i + 1 < L))) (.row bt ((tup s.N names.length ((i + 1) % L)).map iav) :: hH bw s2 n2)) := by
   have := (tup_next bt s.N names.length i ⟨hs.n1, hs.n2⟩ (by omega) (by rw [hLL]; exact hi)).aroundD [] (hH bw s2 n2)
   rw [hLL] at this
   rw [hN2]; exact this
  repeat' (first | (refine xS 4 3 ?_; refine AL.d (AOp.fr 0) ?_; refine AL.d (AOp.ll 2) ?_; refine AL.d (AOp.call rfl rfl hX) ?_; refine xN 1 ?_) | refine AW.jj (fun hb => ?_) (fun hb => ?_) | refine AW.go ?_ | fail)
  ·have hb : decide (i + 1 < L) = false := by simpa using hb
   repeat' (first | refine AW.re 5 1 ?_ | fail)
   refine AW.ret_drop rfl (List.sublist_cons_self _ _) ⟨congrArg (fun b => AEnd.ret (AV.bool b)) ?_, s2, n2, rfl, sm.trans sm2, nb2.trans nb, nf2.trans nf, hk2⟩
   rw [show L = i + 1 by have := of_decide_eq_false hb; omega, he2]
  ·have hb : i + 1 < L := by simpa using hb
   refine AW.again_keep (L - (i + 1)) [0, 1, 2, 3, 9] (by omega) ⟨i + 1, s2, n2, hb, rfl, rfl, ?_, sm.trans sm2, nb2.trans nb, nf2.trans nf, hk2, he2⟩
   rw [Nat.mod_eq_of_lt hb]
def ppow (n : Int) : Nat → Int → Int
 | 0, p => p
 | k + 1, p => if p ≤ 4096 then ppow n k (p * n) else p
theorem ppow_val {n : Nat} (hn : 1 ≤ n) : ∀ (k p : Nat), 1 ≤ p → (p * n ^ k ≤ 4096 → ppow n k p = (p * n ^ k : Nat)) ∧ (ppow n k p ≤ 4096 → p * n ^ k ≤ 4096) ∧ 1 ≤ ppow n k p
 | 0, p, hp => by rw [ppow, Nat.pow_zero, Nat.mul_one]; exact ⟨fun _ => rfl, fun h => by omega, by omega⟩
 | k + 1, p, hp => by
  have e : p * n ^ (k + 1) = (p * n) * n ^ k := by rw [Nat.pow_succ, Nat.mul_comm (n ^ k) n, Nat.mul_assoc]
  obtain ⟨h1, h2, h3⟩ := ppow_val hn k (p * n) (Nat.mul_pos hp hn)
  rw [ppow, e]
  by_cases h : (p : Int) ≤ 4096
  ·rw [if_pos h, ← Int.natCast_mul]; exact ⟨h1, h2, h3⟩
  ·rw [if_neg h]
   refine ⟨fun hle => ?_, fun hle => absurd hle h, by omega⟩
   have : p * 1 ≤ p * n := Nat.mul_le_mul_left p hn
   have : p * n * 1 ≤ p * n * n ^ k := Nat.mul_le_mul_left _ (Nat.pow_pos hn)
   omega
theorem ref_Pow (n k : Int) (hn : 1 ≤ n ∧ n ≤ 64) (hk : 0 ≤ k ∧ k ≤ 1000000) : Tri Tryz.prog 63 [.int .i64 n, .int .i64 k] [] (D (.int .i64 (ppow n k.toNat 1)) []) := by
 refine Tri.enter 20 Tryz.func63 rfl rfl rfl rfl fun Fr w0 => ?_
 repeat' (first | refine AW.re 0 1 ?_ | refine AW.re 1 1 ?_ | refine AW.re 2 1 ?_ | refine AW.go ?_ | fail)
 refine AW.prune [0, 1, 5, 6] (AW.loop (fun mz af h => ∃ (i : Nat) (p : Int), i ≤ k.toNat ∧ mz = k.toNat - i ∧ af = [(0, .int .i64 n), (1, .int .i64 k), (5, .int .i64 p), (6, .int .i64 i)] ∧ h = [] ∧ (1 ≤ p ∧ p ≤ 4096 * 64 ∧ ppow n k.toNat 1 = ppow n (k.toNat - i) p)) k.toNat ⟨0, 1, Nat.zero_le _, rfl, rfl, rfl, ⟨by omega, by omega, rfl⟩⟩ ?_)
 rintro mz af h ⟨i, p, hi, rfl, rfl, rfl, he⟩
 refine AW.seq ?_
 by_cases hlt : i < k.toNat
 all_goals obtain ⟨h1, h2, he⟩ := he
 ·rw [show k.toNat - i = (k.toNat - (i + 1)) + 1 by omega, ppow] at he
  by_cases hp : p ≤ 4096
  ·have m1 : p * 1 ≤ p * n := Int.mul_le_mul_of_nonneg_left hn.1 (by omega)
   have m2 : p * n ≤ 4096 * 64 := Int.mul_le_mul hp hn.2 (by omega) (by omega)
   rw [if_pos hp] at he
   repeat' (first | (refine xS 3 4 ?_; ((refine AL.gx (fun hb => ?_) (fun hb => ?_) <;> refine AL.es 3 ?_)) <;> refine AL.nil ?_) | (refine xS 5 2 ?_; refine AL.d (AOp.mul rfl rfl (by omega)) ?_; refine xN 1 ?_) | (refine xS 4 1 ?_; refine AL.d AOp.ad ?_; refine xN 1 ?_) | refine AW.jf ?_ | refine AW.jj (fun hb => ?_) (fun hb => ?_) | refine AW.go ?_ | fail)
   all_goals try (exfalso; simp only [dT, dF, lM] at *; omega)
   refine AW.again_keep (k.toNat - (i + 1)) [0, 1, 5, 6] (by omega) ⟨i + 1, p * n, hlt, rfl, rfl, rfl, ?_⟩
   exact ⟨by omega, by omega, he⟩
  ·rw [if_neg hp] at he
   repeat' (first | (refine xS 3 4 ?_; ((refine AL.gx (fun hb => ?_) (fun hb => ?_) <;> refine AL.es 3 ?_)) <;> refine AL.nil ?_) | refine AW.re 6 2 ?_ | refine AW.jf ?_ | refine AW.jj (fun hb => ?_) (fun hb => ?_) | refine AW.go ?_ | fail)
   all_goals try (exfalso; simp only [dT, dF, lM] at *; omega)
   exact AW.retv rfl ⟨by rw [he], rfl⟩
 ·rw [show k.toNat - i = 0 by omega, ppow] at he
  repeat' (first | (refine xS 3 4 ?_; ((refine AL.gx (fun hb => ?_) (fun hb => ?_) <;> refine AL.es 3 ?_)) <;> refine AL.nil ?_) | refine AW.re 6 2 ?_ | refine AW.jf ?_ | refine AW.jj (fun hb => ?_) (fun hb => ?_) | refine AW.go ?_ | fail)
  all_goals try (exfalso; simp only [dT, dF, lM] at *; omega)
  exact AW.retv rfl ⟨by rw [he], rfl⟩
theorem ref_PowN (n k : Nat) (hn : 1 ≤ n ∧ n ≤ 64) (hk : k ≤ 1000000) (hp : n ^ k ≤ 4096) : Tri Tryz.prog 63 [.int .i64 n, .int .i64 k] [] (D (.int .i64 (n ^ k : Nat)) []) := by
 have h := ref_Pow n k (by omega) (by omega)
 have e : ppow n k 1 = (n ^ k : Nat) := by have := (ppow_val hn.1 k 1 (Nat.le_refl _)).1 (by omega); rw [Nat.one_mul] at this; exact this
 rw [Int.toNat_natCast, e] at h; exact h
theorem falses_map (m : Nat) : (falses m).map bav = List.replicate m (.bool false) := by unfold falses; rw [List.map_replicate]; rfl
def zTb : AV := .st [.str empB, .int .i64 0, .sl []]
def WS.push (s : WS) (o : Option Nat) (c : Nat) (tl : List AV) (t : TE) : WS := { s with to := o, tc := c, tt := tl, ts := s.ts ++ [t] }
theorem WS.push_ok {s : WS} (hs : s.Ok) {o : Option Nat} {c : Nat} {tl : List AV} {t : TE} (h1 : (tcells s.ts).length + 3 + tl.length = c * 3) (h2 : o = none → s.ts.length + 1 = 0 ∧ c = 0) (h3 : s.ts.length + 1 ≤ 10000) : (s.push o c tl t).Ok := by
 obtain ⟨n1, n2, t1, t2, t3, m1, m2, m3, v1, v2, v3, v4⟩ := hs
 refine ⟨n1, n2, ?_, fun h => ?_, ?_, m1, m2, m3, v1, v2, v3, v4⟩
 ·show (s.ts ++ [t]).length * 3 + tl.length = c * 3
  rw [tcells_len] at h1
  rw [lA, List.length_singleton]; omega
 ·show (s.ts ++ [t]).length = 0 ∧ c = 0
  rw [lA, List.length_singleton]; exact h2 h
 ·show (s.ts ++ [t]).length ≤ 10000
  rw [lA, List.length_singleton]; omega
theorem WS.push_box (s : WS) (o : Option Nat) (c : Nat) (tl : List AV) (t : TE) : (s.push o c tl t).box = .st [.int .i64 s.N, .int .i64 s.base, bfV o (s.ts.length + 1) c, bfV s.no s.ns.length s.nc, bfV s.vo s.vs.length s.vc, .bool s.long] := by
 unfold WS.box WS.push
 simp only [lA, List.length_singleton]
theorem wH_push (bw : Nat) (s : WS) (o : Option Nat) (c : Nat) (tl : List AV) (t : TE) : wH bw (s.push o c tl t) = .box bw (.st [.int .i64 s.N, .int .i64 s.base, bfV o (s.ts.length + 1) c, bfV s.no s.ns.length s.nc, bfV s.vo s.vs.length s.vc, .bool s.long]) :: bfO o (tcells s.ts ++ t.cells ++ tl) :: bfO s.no (s.ns.map AV.str ++ s.nt) :: bfO s.vo (s.vs.map iav ++ s.vt) :: (s.ts.map TE.row ++ [t.row]) := by
 unfold wH
 rw [WS.push_box]
 unfold WS.push
 simp only [tcells_app, List.map_append]
 rfl
def ordG : List GSym → List ByteArray → List ByteArray
 | [], o => o
 | a :: l, o => ordG l (risP o a.Name)
theorem ordG_len : ∀ (l : List GSym) (o : List ByteArray), (ordG l o).length ≤ o.length + l.length
 | [], o => by simp [ordG]
 | a :: l, o => by
  have h1 := ordG_len l (risP o a.Name)
  have h2 := risP_len o a.Name
  rw [ordG, List.length_cons]; omega
theorem ordG_mem : ∀ (l : List GSym) (o : List ByteArray) (x : ByteArray), x ∈ ordG l o ↔ x ∈ o ∨ ∃ a ∈ l, a.Name = x
 | [], o, x => by simp [ordG]
 | a :: l, o, x => by
  rw [ordG, ordG_mem l, risP_mem]
  constructor
  ·rintro ((rfl | h) | ⟨b, hb, h⟩)
   ·exact .inr ⟨a, by simp, rfl⟩
   ·exact .inl h
   ·exact .inr ⟨b, by simp [hb], h⟩
  ·rintro (h | ⟨b, hb, h⟩)
   ·exact .inl (.inr h)
   ·rcases List.mem_cons.1 hb with rfl | hb
    ·exact .inl (.inl h.symm)
    ·exact .inr ⟨b, hb, h⟩
def fsym (l : List GSym) (nm : ByteArray) : List GSym := (l.find? fun y => decide (y.Name = nm)).toList
def symL (l : List GSym) : List GSym := (ordG l []).flatMap (fsym l)
theorem fsym_len (l : List GSym) (nm : ByteArray) : (fsym l nm).length ≤ 1 := by
 unfold fsym; cases l.find? _ <;> simp
theorem symL_len (l : List GSym) : (symL l).length ≤ l.length := by
 have h := ordG_len l []
 have key : ∀ o : List ByteArray, (o.flatMap (fsym l)).length ≤ o.length := by
  intro o
  induction o with
  | nil => simp
  | cons a o ih => have := fsym_len l a; rw [List.flatMap_cons, lA, List.length_cons]; omega
 have := key (ordG l [])
 unfold symL; simp at h; omega
theorem symL_sub {l : List GSym} {x : GSym} (h : x ∈ symL l) : x ∈ l := by
 obtain ⟨nm, _, hx⟩ := List.mem_flatMap.1 h
 unfold fsym at hx
 rw [Option.mem_toList] at hx
 exact List.mem_of_find?_eq_some hx
theorem symL_name {l : List GSym} {x : GSym} (h : x ∈ l) : ∃ y ∈ symL l, y.Name = x.Name := by
 have hm : x.Name ∈ ordG l [] := (ordG_mem l [] x.Name).2 (.inr ⟨x, h, rfl⟩)
 cases hf : l.find? fun y => decide (y.Name = x.Name) with
 | none => have := List.find?_eq_none.1 hf x h; simp at this
 | some y =>
  refine ⟨y, List.mem_flatMap.2 ⟨x.Name, hm, ?_⟩, ?_⟩
  ·unfold fsym; rw [hf]; simp
  ·have := List.find?_some hf; simpa using this
theorem ref_Symbols (f : GFml) (ho : f.Ok) (hn : ndF f ≤ 900000) : Tri Tryz.prog 36 [f.st] [] (D (.sl ((symL (ocF f [] [])).map GSym.av)) []) := by
 have hO := ref_occ _ f [] [] none 0 (Nat.le_refl _) ho (by simp; omega) (by simp; omega)
 have hOl : (ocF f [] []).length ≤ 900000 := by have := ocF_len f [] []; simp at this; omega
 generalize ocF f [] [] = T at *
 have hol := ordG_len T []
 unfold symL
 generalize hOO : ordG T [] = O at *
 simp only [List.length_nil, Nat.zero_add] at hol
 obtain ⟨k, ar, nm, vars, args, kids⟩ := f
 refine Tri.enter 54 Tryz.func36 rfl rfl rfl rfl fun Fr w0 => ?_
 repeat' (first | (refine AW.r 0 ?_; (refine AL.d (AOp.box_ro (v := .st [.int .i64 k, .int .i64 ar, .str nm, strs vars, strs args, .sl (kids.map GFml.av)]) rfl rfl) ?_) <;> refine AL.es 1 ?_ <;> refine AL.nil ?_) | refine AW.go ?_ | fail)
 refine AW.own_nil 2 ?_
 repeat' (first | fail)
 refine AW.region_at 1 ?_
 refine AL.es 1 ?_
 refine AL.step rfl rfl (AOp.callV (args := [.st [.int .i64 k, .int .i64 ar, .str nm, strs vars, strs args, .sl (kids.map GFml.av)], strs [], .slt [] none 0]) rfl (fun S w a hfr => ?_) hO) ?_ (by rintro _ _ ⟨_, _, e, _⟩; cases e)
 ·have h1 := aeval_rel hfr (x := .tmp 9) rfl
  have h2 := rel_nil (S := S) (w := w)
  simp only [RelVs]
  exact ⟨_, _, rfl, h1.1, h1.2, _, _, rfl, slt_sl _ _ _ h2.1, (fun cs e => by cases e), _, _, rfl, h2.1, h2.2, rfl⟩
 rintro _ _ ⟨tb, tc, e, rfl⟩
 injection e with e
 subst e
 refine AL.es 1 ?_
 refine AL.nil ?_
 refine AW.as_sl 3 rfl ?_
 refine AW.drop (List.nil_sublist _) ?_
 repeat' (first | refine AW.re 2 1 ?_ | refine AW.re 3 1 ?_ | refine AW.go ?_ | fail)
 refine AW.prune [3, 4, 5] (AW.loop (fun mz af h => ∃ (i : Nat) (o : List ByteArray), i ≤ T.length ∧ mz = T.length - i ∧ af = [(3, .sl (T.map GSym.av)), (4, strs o), (5, .int .i64 i)] ∧ h = [] ∧ (O = ordG (T.drop i) o ∧ o.length ≤ i)) T.length ⟨0, [], Nat.zero_le _, rfl, rfl, rfl, ⟨hOO.symm, Nat.le_refl _⟩⟩ ?_)
 rintro mz af h ⟨i, o, hi, rfl, rfl, rfl, he⟩
 refine AW.seq ?_
 by_cases hlt : i < T.length
 all_goals obtain ⟨he, hoi⟩ := he
 ·obtain ⟨x, hx⟩ := get_lt hlt
  have hx' : (T.map GSym.av)[((i : Nat) : Int).toNat]? = some x.av := map_get hx
  have hR := ref_sorted o x.Name (by omega)
  have hrl := risP_len o x.Name
  rw [drop_cons hx, ordG] at he
  repeat' (first | refine AW.re 4 4 ?_ | (refine xS 6 3 ?_; refine AL.d (iX hx') ?_; refine AL.es 2 ?_; refine AL.d (AOp.call rfl rfl hR) ?_; refine xN 1 ?_) | (refine xS 5 1 ?_; refine AL.d AOp.ad ?_; refine xN 1 ?_) | refine AW.jj (fun hb => ?_) (fun hb => ?_) | refine AW.go ?_ | fail)
  all_goals try (exfalso; simp only [dT, dF, lM] at *; omega)
  exact AW.again_keep (T.length - (i + 1)) [3, 4, 5] (by omega) ⟨i + 1, _, hlt, rfl, rfl, rfl, he, by omega⟩
 ·rw [List.drop_eq_nil_of_le (by omega), ordG] at he
  subst he
  repeat' (first | refine AW.re 4 4 ?_ | refine AW.jj (fun hb => ?_) (fun hb => ?_) | refine AW.go ?_ | fail)
  all_goals try (exfalso; simp only [dT, dF, lM] at *; omega)
  refine AW.own_nil 2 ?_
  repeat' (first | (refine AW.r 7 ?_; refine AL.d AOp.assign_nil ?_; refine AL.nil ?_) | (refine AW.r 8 ?_; refine AL.e ?_; refine AL.nil ?_) | refine AW.go ?_ | fail)
  refine AW.prune [3, 4, 6, 7] (AW.loop (fun mz af h => ∃ (i : Nat) (out : List GSym) (tb : Option Nat) (tc : Nat), i ≤ O.length ∧ mz = O.length - i ∧ af = [(3, .sl (T.map GSym.av)), (4, strs O), (6, .slt (out.map GSym.av) tb tc), (7, .int .i64 i)] ∧ h = [.tail tb (out.map GSym.av).length tc 2] ∧ (out = (O.take i).flatMap (fsym T) ∧ out.length ≤ i)) O.length ⟨0, [], none, 0, Nat.zero_le _, rfl, rfl, rfl, ⟨rfl, Nat.le_refl _⟩⟩ ?_)
  rintro mz af h ⟨i, out, tb, tc, hi, rfl, rfl, rfl, he⟩
  refine AW.seq ?_
  by_cases hlt : i < O.length
  all_goals obtain ⟨he, hlo⟩ := he
  ·obtain ⟨x, hx⟩ := get_lt hlt
   have hx' : (O.map AV.str)[((i : Nat) : Int).toNat]? = some (.str x) := map_get hx
   have htk : O.take (i + 1) = O.take i ++ [x] := by rw [List.take_add_one, hx]; rfl
   have hft : (O.take (i + 1)).flatMap (fsym T) = out ++ fsym T x := by rw [htk, List.flatMap_append, he]; simp
   have hlt0 := hlt
   obtain ⟨I0, hI0⟩ : ∃ j : Nat, j = i := ⟨i, rfl⟩
   subst hI0
   repeat' (first | refine AW.re 9 4 ?_ | refine AW.re 11 1 ?_ | refine AW.jj (fun hb => ?_) (fun hb => ?_) | refine AW.go ?_ | fail)
   all_goals try (exfalso; simp only [dT, dF, lM] at *; omega)
   refine AW.prune [3, 4, 6, 7, 8] (AW.loop (fun mz af h => ∃ (i : Nat), i ≤ T.length ∧ mz = T.length - i ∧ af = [(3, .sl (T.map GSym.av)), (4, strs O), (6, .slt (out.map GSym.av) tb tc), (7, .int .i64 I0), (8, .int .i64 i)] ∧ h = [.tail tb (out.map GSym.av).length tc 2] ∧ (fsym T x = fsym (T.drop i) x)) T.length ⟨0, Nat.zero_le _, rfl, rfl, rfl, rfl⟩ ?_)
   rintro mz af h ⟨i, hi, rfl, rfl, rfl, he⟩
   refine AW.seq ?_
   by_cases hlt : i < T.length
   ·obtain ⟨y, hy⟩ := get_lt (show i < T.length by omega)
    have hyp : (T.map GSym.av)[((i : Nat) : Int).toNat]? = some (.st [.str y.Name, .int .i64 y.Arity]) := map_get hy
    rw [drop_cons hy] at he
    repeat' (first | refine AW.re 12 4 ?_ | (refine AW.dq 14 ?_; refine AQ.es 2 ?_; refine AQ.p rfl (iX hyp) ?_; refine AQ.es 4 ?_; refine AQ.p rfl (iX hx') ?_; refine AQ.es 2 ?_; refine AQ.nil ?_) | refine AW.jj (fun hb => ?_) (fun hb => ?_) | refine AW.go ?_ | fail)
    all_goals try (exfalso; simp only [dT, dF, lM] at *; omega)
    all_goals rw [toList_beq] at hb
    ·have hf : fsym T x = [y] := by rw [he]; unfold fsym; rw [List.find?_cons_of_pos (by simpa using hb)]; rfl
     repeat' (first | (refine xS 15 3 ?_; refine AL.d (iX hyp) ?_; refine AL.es 1 ?_; refine AL.d (AOp.lit (e := 64) (sz := 2) (by kernel_rfl) rfl rfl rfl (P_one rfl) (by decide)) ?_; refine AL.append (i := 0) (e := 64) (sz := 2) (bytes := 24) rfl rfl rfl rfl (by kernel_rfl) (by kernel_rfl) (by repeat' (exact P_map fun _ => rfl)) (by repeat' (exact P_one rfl)) (ok_all (by repeat' (exact P_one rfl))) (by (try simp only [lA, lM, List.length_take, List.length_drop, List.length_cons, List.length_nil, List.length_replicate]); omega) (by (try simp only [lA, lM, List.length_take, List.length_drop, List.length_cons, List.length_nil, List.length_replicate]); omega) rfl fun b' c' => ?_ <;> refine AL.es 1 ?_ <;> refine AL.nil ?_) | (refine xS 10 1 ?_; refine AL.d AOp.ad ?_; refine xN 1 ?_) | fail)
     have hmm : (out ++ [y]).map GSym.av = out.map GSym.av ++ [AV.st [.str y.Name, .int .i64 y.Arity]] := by simp [GSym.av]
     refine AW.again_keep (O.length - (I0 + 1)) [3, 4, 6, 7] (by omega) ⟨I0 + 1, out ++ [y], b', c', hlt0, rfl, ?_, ?_, ?_, by simp; omega⟩
     ·rw [hmm]; rfl
     ·rw [hmm]; rfl
     ·rw [hft, hf]
    ·have hf : fsym (y :: T.drop (i + 1)) x = fsym (T.drop (i + 1)) x := by unfold fsym; rw [List.find?_cons_of_neg (by simpa using hb)]
     repeat' (first | (refine xS 13 1 ?_; refine AL.d AOp.ad ?_; refine xN 1 ?_) | fail)
     exact AW.again_keep (T.length - (i + 1)) [3, 4, 6, 7, 8] (by omega) ⟨i + 1, hlt, rfl, rfl, rfl, he.trans hf⟩
   ·rw [List.drop_eq_nil_of_le (by omega)] at he
    repeat' (first | refine AW.re 12 4 ?_ | (refine xS 10 1 ?_; refine AL.d AOp.ad ?_; refine xN 1 ?_) | refine AW.jj (fun hb => ?_) (fun hb => ?_) | refine AW.go ?_ | fail)
    all_goals try (exfalso; simp only [dT, dF, lM] at *; omega)
    exact AW.again_keep (O.length - (I0 + 1)) [3, 4, 6, 7] (by omega) ⟨I0 + 1, out, tb, tc, hlt0, rfl, rfl, rfl, by rw [hft, he]; simp [fsym], by omega⟩
  ·rw [List.take_of_length_le (by omega)] at he
   subst he
   repeat' (first | refine AW.re 9 4 ?_ | refine AW.jj (fun hb => ?_) (fun hb => ?_) | refine AW.go ?_ | fail)
   all_goals try (exfalso; simp only [dT, dF, lM] at *; omega)
   refine AW.as_sl 6 rfl ?_
   repeat' (first | refine AW.re 16 2 ?_ | fail)
   exact AW.ret_drop rfl (List.nil_sublist _) ⟨rfl, rfl⟩
theorem lkT_none {α : Type} {s : ByteArray} : ∀ {T : List (ByteArray × α)}, lkT T s = none ↔ ∀ p ∈ T, p.1 ≠ s
  | [] => by simp [lkT]
  | p :: T => by
    rw [lkT]
    have ih := lkT_none (α := α) (s := s) (T := T)
    cases h : lkT T s with
    | some x => rw [h] at ih; simp only [List.mem_cons]; constructor
                · intro e; cases e
                · intro e; exact absurd (ih.2 fun q hq => e q (.inr hq)) (by simp)
    | none =>
      have ih := ih.1 h
      by_cases e : p.1 = s
      · simp [e]
      · simp only [e, if_false, true_iff, List.mem_cons]
        rintro q (rfl | hq)
        · exact e
        · exact ih q hq
theorem HoldsAt.same {bw : Nat} {K : NT → Prop} {s s' : WS} {o o' : Option Nat} {c c' : Nat} {tl tl' : List AV} {t t' : TE} {n n' : NT} {names : List ByteArray} {tp : List Int} {v : Bool} (h : HoldsAt bw K (s.push o c tl t) n names tp v) (hs : Same s s') (hb : n'.b = n.b) (hf : n'.f = n.f) (ht : t' = t) : HoldsAt bw K (s'.push o' c' tl' t') n' names tp v := by
 subst ht
 intro s2 n2 h1 h2 h3 h4 h5 h6 h7 h8 h9
 refine h s2 n2 h1 (h2.trans hs.N) (h3.trans hs.base) ?_ ?_ ?_ (h7.trans hb) (h8.trans hf) h9
 ·rw [h4]; show s'.ts ++ [t'] = s.ts ++ [t']; rw [hs.ts]
 ·rw [h5]; show s'.ns ++ names = s.ns ++ names; rw [hs.ns]
 ·rw [h6]; show s'.vs ++ tp = s.vs ++ tp; rw [hs.vs]
section
variable {N M : Nat} {f : GFml} {T : TT} {V : VV} {L : Nat} {X : List Bool} {seen : List (List Bool)} {mz : Nat}
end
theorem Vals_H (bw : Nat) (s : WS) (hs : s.Ok) (n : NT) (names : List ByteArray) (hl : names.length ≤ 100000) : Tri Tryz.prog 176 [.ref bw 0, strs names] (hH bw s n) (D (ints (names.map (val s.V))) (hH bw s n)) :=
 (w_Values bw s hs names hl).aroundD [n.bx] n.rest
theorem val_in {s : WS} (hs : s.Ok) (l : List ByteArray) : ∀ x ∈ l.map (val s.V), 0 ≤ x ∧ x < s.N := by
 intro x hx
 obtain ⟨v, _, rfl⟩ := List.mem_map.1 hx
 exact val_bd (by have := hs.n1; omega) s.ns s.vs hs.v4 v
def tupL (n k m : Nat) : List (List Int) := (List.range m).map (tup n k)
theorem tupL_len (n k m : Nat) : (tupL n k m).length = m := by simp [tupL]
theorem tupL_get {n k m i : Nat} (h : i < m) : (tupL n k m)[i]? = some (tup n k i) := by
 unfold tupL; rw [List.getElem?_map, List.getElem?_range h]; rfl
theorem tupL_snoc (n k m : Nat) : tupL n k (m + 1) = tupL n k m ++ [tup n k m] := by
 unfold tupL; rw [List.range_succ, List.map_append]; rfl
theorem tup_digit {n : Nat} (hn : 0 < n) (k j x : Nat) (hx : x < n) : tup n (k + 1) (n * j + x) = tup n k j ++ [((x : Nat) : Int)] := by
 rw [tup, Nat.mul_add_div hn, Nat.div_eq_of_lt hx, Nat.add_zero, Nat.mul_add_mod, Nat.mod_eq_of_lt hx]
theorem all_sz1 (l : List Int) : ∀ x ∈ [] ++ l.map iav, x.size = 1 := by rw [List.nil_append]; exact all_map fun _ => rfl
theorem ref_Tuples (n k : Nat) (hn : 1 ≤ n ∧ n ≤ 64) (hk : k ≤ 1000) (hL : n ^ k ≤ 4096) : Tri Tryz.prog 25 [.int .i64 n, .int .i64 k] [] (D (.sl ((tupL n k (n ^ k)).map ints)) []) := by
 refine Tri.enter 42 Tryz.func25 rfl rfl rfl rfl fun Fr w0 => ?_
 repeat' (first | refine AW.re 0 1 ?_ | (refine AW.r 1 ?_; refine AL.d (AOp.lit (e := 3) (sz := 1) (by kernel_rfl) rfl rfl rfl P_nil (by decide)) ?_; refine AL.d (AOp.lit (e := 52) (sz := 1) (by kernel_rfl) rfl rfl rfl (P_one rfl) (by decide)) ?_; refine xN 1 ?_) | refine AW.re 2 1 ?_ | refine AW.go ?_ | fail)
 refine AW.prune [0, 1, 5, 6] (AW.loop (fun mz af h => ∃ (i : Nat), i ≤ k ∧ mz = k - i ∧ af = [(0, .int .i64 n), (1, .int .i64 k), (5, .sl ((tupL n i (n ^ i)).map ints)), (6, .int .i64 i)] ∧ h = [] ∧ True) k ⟨0, Nat.zero_le _, rfl, rfl, rfl, trivial⟩ ?_)
 rintro mz af h ⟨i, hi, rfl, rfl, rfl, he⟩
 refine AW.seq ?_
 by_cases hlt : i < k
 ·have hi0 : n ^ i ≤ 4096 := by have := powle hn.1 (show i ≤ k by omega); omega
  obtain ⟨I0, hI0⟩ : ∃ j : Nat, j = i := ⟨i, rfl⟩
  subst hI0
  have hlt0 := hlt
  repeat' (first | refine AW.re 3 3 ?_ | refine AW.jj (fun hb => ?_) (fun hb => ?_) | refine AW.go ?_ | fail)
  all_goals try (exfalso; simp only [dT, dF, lM] at *; omega)
  refine AW.own_nil 1 ?_
  repeat' (first | (refine AW.r 5 ?_; refine AL.d AOp.assign_nil ?_; refine AL.nil ?_) | (refine AW.r 6 ?_; refine AL.e ?_; refine AL.nil ?_) | refine AW.go ?_ | fail)
  have hlen : (((tupL n I0 (n ^ I0)).map ints).length : Int) = (n ^ I0 : Nat) := by rw [lM, tupL_len]
  refine AW.prune [0, 1, 5, 6, 7, 8] (AW.loop (fun mz af h => ∃ (i : Nat) (tb : Option Nat) (tc : Nat), i ≤ (n ^ I0) ∧ mz = (n ^ I0) - i ∧ af = [(0, .int .i64 n), (1, .int .i64 k), (5, .sl ((tupL n I0 (n ^ I0)).map ints)), (6, .int .i64 I0), (7, .slt ((tupL n (I0 + 1) (n * i)).map ints) tb tc), (8, .int .i64 i)] ∧ h = [.tail tb ((tupL n (I0 + 1) (n * i)).map ints).length tc 1] ∧ True) (n ^ I0) ⟨0, none, 0, Nat.zero_le _, rfl, rfl, rfl, trivial⟩ ?_)
  rintro mz af h ⟨i, tb, tc, hi, rfl, rfl, rfl, he⟩
  refine AW.seq ?_
  by_cases hlt : i < (n ^ I0)
  ·have hj : (n ^ I0) * n ≤ 4096 * 64 := Nat.mul_le_mul hi0 hn.2
   have hj2 : n * i + n ≤ n ^ I0 * n := by
    have := Nat.mul_le_mul_right n (show i + 1 ≤ n ^ I0 by omega)
    rw [Nat.add_mul, Nat.one_mul, Nat.mul_comm] at this; exact this
   obtain ⟨J0, hJ0⟩ : ∃ j : Nat, j = i := ⟨i, rfl⟩
   subst hJ0
   have hlt1 := hlt
   have hx' : ((tupL n I0 (n ^ I0)).map ints)[((J0 : Nat) : Int).toNat]? = some (ints (tup n I0 J0)) := map_get (tupL_get hlt)
   have htl := tup_len n I0 J0
   repeat' (first | refine AW.re 7 4 ?_ | refine AW.re 9 1 ?_ | refine AW.jj (fun hb => ?_) (fun hb => ?_) | refine AW.go ?_ | fail)
   all_goals try (exfalso; simp only [dT, dF, lM] at *; omega)
   refine AW.prune [0, 1, 5, 6, 7, 8, 9] (AW.loop (fun mz af h => ∃ (i : Nat) (tb : Option Nat) (tc : Nat), i ≤ n ∧ mz = n - i ∧ af = [(0, .int .i64 n), (1, .int .i64 k), (5, .sl ((tupL n I0 (n ^ I0)).map ints)), (6, .int .i64 I0), (7, .slt ((tupL n (I0 + 1) (n * J0 + i)).map ints) tb tc), (8, .int .i64 J0), (9, .int .i64 i)] ∧ h = [.tail tb ((tupL n (I0 + 1) (n * J0 + i)).map ints).length tc 1] ∧ True) n ⟨0, tb, tc, Nat.zero_le _, rfl, rfl, rfl, trivial⟩ ?_)
   rintro mz af h ⟨i, tb, tc, hi, rfl, rfl, rfl, he⟩
   refine AW.seq ?_
   by_cases hlt : i < n
   ·have hls : ((tupL n (I0 + 1) (n * J0 + i)).map ints).length = n * J0 + i := by rw [lM, tupL_len]
    have hit : ((tup n I0 J0).map iav).length = I0 := by rw [lM, htl]
    repeat' (first | refine AW.re 10 3 ?_ | refine AW.jj (fun hb => ?_) (fun hb => ?_) | refine AW.go ?_ | fail)
    all_goals try (exfalso; simp only [dT, dF, lM] at *; omega)
    refine AW.region_at 12 ?_
    refine AL.es 1 ?_
    refine AL.lit_own (e := 3) (sz := 1) (by kernel_rfl) rfl rfl rfl P_nil (by decide) rfl fun b0 => ?_
    refine AL.es 2 ?_
    refine AL.d (iX hx') ?_
    refine AL.d AOp.la ?_
    refine AL.append (i := 0) (e := 3) (sz := 1) (bytes := 8) rfl rfl rfl rfl (by kernel_rfl) (by kernel_rfl) (by repeat' (first | exact P_nil | fail)) (by repeat' (first | exact P_map fun _ => rfl | fail)) (ok_all (by repeat' (first | exact P_map fun _ => rfl | fail))) (by (try simp only [lA, lM, List.length_take, List.length_drop, List.length_cons, List.length_nil, List.length_replicate]); omega) (by (try simp only [lA, lM, List.length_take, List.length_drop, List.length_cons, List.length_nil, List.length_replicate]); omega) rfl fun b' c' => ?_
    refine AL.es 1 ?_
    refine AL.d (AOp.lit (e := 3) (sz := 1) (by kernel_rfl) rfl rfl rfl (P_one rfl) (by decide)) ?_
    refine AL.append (i := 0) (xs := [] ++ (tup n I0 J0).map iav) (e := 3) (sz := 1) (bytes := 8) rfl rfl rfl rfl (by kernel_rfl) (by kernel_rfl) (all_sz1 _) (P_one rfl) rfl (by rw [List.nil_append, hit]; simp; omega) (by rw [List.nil_append, hit]; simp; omega) rfl fun b2 c2 => ?_
    refine AL.as_sl 37 rfl ?_
    refine AL.drop (ah' := [.tail tb ((tupL n (I0 + 1) (n * J0 + i)).map ints).length tc 1]) (List.sublist_cons_self _ _) ?_
    refine AL.d (AOp.lit (e := 52) (sz := 1) (by kernel_rfl) rfl rfl rfl (P_one rfl) (by decide)) ?_
    refine AL.append (i := 0) (xs := (tupL n (I0 + 1) (n * J0 + i)).map ints) (e := 52) (sz := 1) (bytes := 24) rfl rfl rfl rfl (by kernel_rfl) (by kernel_rfl) (all_map fun _ => rfl) (P_one rfl) rfl (by rw [hls]; simp; omega) (by rw [hls]; simp; omega) rfl fun b3 c3 => ?_
    refine AL.es 1 ?_
    refine AL.nil ?_
    have hmm : (tupL n (I0 + 1) (n * J0 + (i + 1))).map ints = (tupL n (I0 + 1) (n * J0 + i)).map ints ++ [.sl ([] ++ (tup n I0 J0).map iav ++ [.int .i64 i])] := by
     rw [← Nat.add_assoc, tupL_snoc, List.map_append, tup_digit hn.1 I0 J0 i hlt]; simp [ints, iav]
    repeat' (first | (refine xS 11 1 ?_; refine AL.d AOp.ad ?_; refine xN 1 ?_) | fail)
    exact AW.again_keep (n - (i + 1)) [0, 1, 5, 6, 7, 8, 9] (by omega) ⟨i + 1, b3, c3, hlt, rfl, by rw [hmm]; rfl, by rw [hmm]; rfl, trivial⟩
   ·obtain rfl : i = n := by omega
    repeat' (first | refine AW.re 10 3 ?_ | (refine xS 8 1 ?_; refine AL.d AOp.ad ?_; refine xN 1 ?_) | refine AW.jj (fun hb => ?_) (fun hb => ?_) | refine AW.go ?_ | fail)
    all_goals try (exfalso; simp only [dT, dF, lM] at *; omega)
    exact AW.again_keep (i ^ I0 - (J0 + 1)) [0, 1, 5, 6, 7, 8] (by omega) ⟨J0 + 1, tb, tc, hlt1, rfl, rfl, rfl, trivial⟩
  ·obtain rfl : i = n ^ I0 := by omega
   rw [show n * n ^ I0 = n ^ (I0 + 1) by rw [Nat.pow_succ, Nat.mul_comm]]
   repeat' (first | refine AW.re 7 4 ?_ | refine AW.jj (fun hb => ?_) (fun hb => ?_) | refine AW.go ?_ | fail)
   all_goals try (exfalso; simp only [dT, dF, lM] at *; omega)
   refine AW.as_sl 7 rfl ?_
   refine AW.drop (List.nil_sublist _) ?_
   repeat' (first | refine AW.re 13 2 ?_ | (refine xS 4 1 ?_; refine AL.d AOp.ad ?_; refine xN 1 ?_) | fail)
   exact AW.again_keep (k - (I0 + 1)) [0, 1, 5, 6] (by omega) ⟨I0 + 1, hlt0, rfl, rfl, rfl, trivial⟩
 ·repeat' (first | refine AW.re 3 3 ?_ | refine AW.jj (fun hb => ?_) (fun hb => ?_) | refine AW.go ?_ | fail)
  all_goals try (exfalso; simp only [dT, dF, lM] at *; omega)
  obtain rfl : i = k := by omega
  repeat' (first | refine AW.re 14 2 ?_ | fail)
  exact AW.retv rfl ⟨rfl, rfl⟩
theorem AOp.quo2 {P : Program} {af : AF} {ah : AH} {d : Option Tmp} {T : TypeId} {ps : String} {es : Array Edge} {gd : Option (Nat × Bool)} {x y : Operand} {m : Nat} {xT yT : TypeId} (hx : aeval af x = some (.int .i64 m)) (hy : aeval af y = some (.int .i64 2)) (hm : m ≤ 1000000) :
  AOp P ⟨d, .binOp .quo xT x y yT, T, ps, es, gd⟩ af ah (D (.int .i64 (m / 2 : Nat)) ah) := by
 have := AOp.quo (P := P) (af := af) (ah := ah) (d := d) (T := T) (ps := ps) (es := es) (gd := gd) (xT := xT) (yT := yT) hx hy (by omega) (by omega)
 rwa [show ((m : Int) / 2) = ((m / 2 : Nat) : Int) by omega] at this
theorem HoldsAt.same0 {bw : Nat} {K : NT → Prop} {s s' : WS} {n n' : NT} {names : List ByteArray} {tp : List Int} {v : Bool} (h : HoldsAt bw K s n names tp v) (hs : Same s s') (hb : n'.b = n.b) (hf : n'.f = n.f) : HoldsAt bw K s' n' names tp v := by
 intro s2 n2 h1 h2 h3 h4 h5 h6 h7 h8 h9
 exact h s2 n2 h1 (h2.trans hs.N) (h3.trans hs.base) (h4.trans hs.ts) (by rw [h5, hs.ns]) (by rw [h6, hs.vs]) (h7.trans hb) (h8.trans hf) h9
end Go.Proofs.YtlpndgodkkndnaaGreatDoor
