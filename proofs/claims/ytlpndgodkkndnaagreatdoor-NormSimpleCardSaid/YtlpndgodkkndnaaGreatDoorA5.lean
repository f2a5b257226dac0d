/- Contracts of the functions, part 5. -/
import Derived.Test.YtlpndgodkkndnaaGreatDoorA4
import Derived.Test.YtlpndgodkkndnaaGreatDoorA4
import Derived.Test.YtlpndgodkkndnaaGreatDoorS2
import Derived.Test.YtlpndgodkkndnaaGreatDoorA3
import Derived.Test.YtlpndgodkkndnaaGreatDoorA2
import Derived.Test.YtlpndgodkkndnaaGreatDoorProg
import Derived.Lib.LaidTab
namespace Go.Proofs.YtlpndgodkkndnaaGreatDoor
open Go.RowKit Go.SX
set_option maxRecDepth 100000
set_option maxHeartbeats 4000000
set_option linter.unusedVariables false
set_option linter.unusedSimpArgs false
theorem ppow_gt {N : Nat} (hN : 1 ≤ N) (k : Nat) : decide (ppow N k 1 > 4096) = decide (4096 < N ^ k) := by
 have h := ppow_val hN k 1 (Nat.le_refl _)
 rw [Nat.one_mul] at h
 rw [decide_eq_decide]
 constructor
 ·intro h1
  by_cases h2 : N ^ k ≤ 4096
  ·have h3 : ppow N k 1 = (N ^ k : Nat) := h.1 h2
   omega
  ·omega
 ·intro h1
  by_cases h2 : ppow N k 1 ≤ 4096
  ·have := h.2.1 h2; omega
  ·omega
theorem ppow_gt16 {N : Nat} (hN : 1 ≤ N) (k : Nat) : decide (ppow N k 1 > 16) = decide (16 < N ^ k) := by
 have h := ppow_val hN k 1 (Nat.le_refl _)
 rw [Nat.one_mul] at h
 rw [decide_eq_decide]
 by_cases h2 : N ^ k ≤ 4096
 ·have h3 : ppow N k 1 = (N ^ k : Nat) := h.1 h2
  rw [h3]; omega
 ·by_cases h4 : ppow N k 1 ≤ 4096
  ·have := h.2.1 h4; omega
  ·omega
theorem ref_Fits03 (N : Nat) (hN : 1 ≤ N ∧ N ≤ 64) : ∀ (d : Nat) (f : GFml), ndF f ≤ d → f.Ok → shsF f = true → ndF f ≤ 100000 → Tri Tryz.prog 112 [f.st, .int .i64 N] [] (D (.bool (smF N f)) []) := by
 intro d
 induction d with
 | zero => intro f hD; have := ndF_eq f; omega
 | succ d ih =>
  intro f hD hok hsh hnd
  have hnd' := ndF_eq f
  have hsp : shapedP f = true := by rw [shsF_eq, bA] at hsh; exact hsh.2
  have hvl := shaped_vars hsp
  have har := shaped_ar hsp
  obtain ⟨hko⟩ := hok
  rename_i hko1 hko2
  have hkx : ∀ x ∈ f.Kids, x.Ok ∧ shsF x = true ∧ ndF x ≤ d ∧ ndF x ≤ 100000 := fun x hx => by
   have := ndFs_mem hx
   exact ⟨hko2 x hx, shsFs_mem (shsF_kids hsh) hx, by omega, by omega⟩
  have hkl := ndFs_len f.Kids
  have hp1 := ref_Pow N f.Vars.length (by omega) (by omega)
  have hp2 := ref_Pow N (f.Vars.length / 2 : Nat) (by omega) (by omega)
  have hp3 := ref_Pow N f.Arity (by omega) (by omega)
  have g1 := ppow_gt hN.1 f.Vars.length
  have g2 := ppow_gt hN.1 (f.Vars.length / 2)
  have g3 := ppow_gt16 hN.1 f.Arity.toNat
  obtain ⟨k, ar, nm, vars, args, kids⟩ := f
  simp only [Int.toNat_natCast] at hkx hkl hnd' hvl har hp1 hp2 hp3 g1 g2 g3
  have hvlen : ((vars.map AV.str).length : Int) = vars.length := by simp
  have hv2 : ((vars.length / 2 : Nat) : Int) = ((vars.map AV.str).length / 2 : Nat) := by rw [lM]
  rw [← hvlen] at hp1
  rw [hv2] at hp2
  rw [smF]
  generalize ppow N vars.length 1 = p1 at *
  generalize ppow N (vars.length / 2) 1 = p2 at *
  generalize ppow N ar.toNat 1 = p3 at *
  generalize N ^ vars.length = q1 at *
  generalize N ^ (vars.length / 2) = q2 at *
  generalize N ^ ar.toNat = q3 at *
  rw [← g1, ← g2, ← g3]
  refine Tri.enter 48 Tryz.func112 rfl rfl rfl rfl fun Fr w0 => ?_
  repeat' (first | (refine AW.r 0 ?_; refine AL.d (AOp.box_ro rfl rfl) ?_; refine xN 1 ?_) | fail)
  refine AW.seq ?_
  refine AW.cut (fun af h => af = [(1, .int .i64 N), (2, .at (⟨k, ar, nm, vars, args, kids⟩ : GFml).st)] ∧ h = [] ∧ (!((k == 8 || k == 9) && decide (p1 > 4096)) && !(k == 10 && decide (p2 > 4096)) && !(k == 11 && decide (p3 > 16))) = true) ?_ ?_
  ·rcases (by omega : k = 8 ∨ k = 9 ∨ k = 10 ∨ k = 11 ∨ ¬ (k = 8 ∨ k = 9 ∨ k = 10 ∨ k = 11)) with e | e | e | e | e
   ·subst e
    repeat' (first | refine AW.re 1 2 ?_ | refine AW.re 2 2 ?_ | (refine xS 4 4 ?_; refine AL.d (AOp.call rfl rfl hp1) ?_; refine xN 1 ?_) | refine AW.re 5 1 ?_ | refine AW.jt ?_ | refine AW.jj (fun hb => ?_) (fun hb => ?_) | refine AW.go ?_ | fail)
    ·refine AW.retv rfl ⟨retB ?_, rfl⟩
     rw [hb]; simp
    ·repeat' (first | fail)
     refine AW.meet [1, 2] ⟨rfl, rfl, ?_⟩
     rw [hb]; simp
   ·subst e
    repeat' (first | refine AW.re 1 2 ?_ | refine AW.re 2 2 ?_ | refine AW.re 3 2 ?_ | (refine xS 4 4 ?_; refine AL.d (AOp.call rfl rfl hp1) ?_; refine xN 1 ?_) | refine AW.re 5 1 ?_ | refine AW.jt ?_ | refine AW.jf ?_ | refine AW.jj (fun hb => ?_) (fun hb => ?_) | refine AW.go ?_ | fail)
    ·refine AW.retv rfl ⟨retB ?_, rfl⟩
     rw [hb]; simp
    ·repeat' (first | fail)
     refine AW.meet [1, 2] ⟨rfl, rfl, ?_⟩
     rw [hb]; simp
   ·subst e
    repeat' (first | refine AW.re 1 2 ?_ | refine AW.re 2 2 ?_ | refine AW.re 3 2 ?_ | refine AW.re 6 2 ?_ | (refine xS 7 4 ?_; refine AL.d (AOp.quo2 (m := (vars.map AV.str).length) rfl rfl (by rw [lM]; omega)) ?_ <;> refine AL.d (AOp.call rfl rfl hp2) ?_ <;> refine AL.es 1 ?_ <;> refine AL.nil ?_) | refine AW.re 8 1 ?_ | refine AW.jt ?_ | refine AW.jf ?_ | refine AW.jj (fun hb => ?_) (fun hb => ?_) | refine AW.go ?_ | fail)
    ·refine AW.retv rfl ⟨retB ?_, rfl⟩
     rw [hb]; simp
    ·repeat' (first | fail)
     refine AW.meet [1, 2] ⟨rfl, rfl, ?_⟩
     rw [hb]; simp
   ·subst e
    repeat' (first | refine AW.re 1 2 ?_ | refine AW.re 2 2 ?_ | refine AW.re 3 2 ?_ | refine AW.re 6 2 ?_ | refine AW.re 9 2 ?_ | (refine xS 10 3 ?_; refine AL.d (AOp.call rfl rfl hp3) ?_; refine xN 1 ?_) | refine AW.re 11 1 ?_ | refine AW.jt ?_ | refine AW.jf ?_ | refine AW.jj (fun hb => ?_) (fun hb => ?_) | refine AW.go ?_ | fail)
    ·refine AW.retv rfl ⟨retB ?_, rfl⟩
     rw [hb]; simp
    ·repeat' (first | fail)
     refine AW.meet [1, 2] ⟨rfl, rfl, ?_⟩
     rw [hb]; simp
   ·repeat' (first | refine AW.re 1 2 ?_ | refine AW.re 2 2 ?_ | refine AW.re 3 2 ?_ | refine AW.re 6 2 ?_ | refine AW.re 9 2 ?_ | refine AW.jj (fun hb => ?_) (fun hb => ?_) | refine AW.go ?_ | fail)
    all_goals try (exfalso; simp only [dT, dF, beq_iff_eq, beq_eq_false_iff_ne, ne_eq] at *; omega)
    repeat' (first | fail)
    refine AW.meet [1, 2] ⟨rfl, rfl, ?_⟩
    simp only [not_or] at e
    obtain ⟨e1, e2, e3, e4⟩ := e
    rw [beq_false_of_ne e1, beq_false_of_ne e2, beq_false_of_ne e3, beq_false_of_ne e4]; rfl
  rintro _ _ ⟨rfl, rfl, hh⟩
  rw [hh, Bool.true_and]
  clear hh
  repeat' (first | refine AW.re 12 1 ?_ | refine AW.go ?_ | fail)
  refine AW.prune [1, 2, 5] (AW.loop (fun mz af h => ∃ (i : Nat), i ≤ kids.length ∧ mz = kids.length - i ∧ af = [(1, .int .i64 N), (2, .at (⟨k, ar, nm, vars, args, kids⟩ : GFml).st), (5, .int .i64 i)] ∧ h = [] ∧ smFs N kids = smFs N (kids.drop i)) kids.length ⟨0, Nat.zero_le _, rfl, rfl, rfl, rfl⟩ ?_)
  rintro mz af h ⟨i, hi, rfl, rfl, rfl, he⟩
  refine AW.seq ?_
  by_cases hlt : i < kids.length
  ·obtain ⟨x, hx⟩ := get_lt hlt
   have hx' : (kids.map GFml.av)[((i : Nat) : Int).toNat]? = some x.st := by rw [← GFml.av_eq]; exact map_get hx
   obtain ⟨q1, q2, q3, q4⟩ := hkx x (lG hx)
   have hC := ih x q3 q1 q2 q4
   rw [drop_cons hx, smFs] at he
   generalize smF N x = v at *
   cases v with
   | false =>
    repeat' (first | refine AW.re 13 5 ?_ | (refine xS 15 3 ?_; refine AL.d (iX hx') ?_; refine AL.es 2 ?_; refine AL.d (AOp.call rfl rfl hC) ?_; refine xN 1 ?_) | refine AW.re 16 1 ?_ | refine AW.jt ?_ | refine AW.jj (fun hb => ?_) (fun hb => ?_) | refine AW.go ?_ | fail)
    all_goals try (exfalso; simp only [dT, dF, lM] at *; omega)
    exact AW.retv rfl ⟨by rw [he]; rfl, rfl⟩
   | true =>
    repeat' (first | refine AW.re 13 5 ?_ | (refine xS 15 3 ?_; refine AL.d (iX hx') ?_; refine AL.es 2 ?_; refine AL.d (AOp.call rfl rfl hC) ?_; refine xN 1 ?_) | (refine xS 14 1 ?_; refine AL.d AOp.ad ?_; refine xN 1 ?_) | refine AW.jf ?_ | refine AW.jj (fun hb => ?_) (fun hb => ?_) | refine AW.go ?_ | fail)
    all_goals try (exfalso; simp only [dT, dF, lM] at *; omega)
    refine AW.again_keep (kids.length - (i + 1)) [1, 2, 5] (by omega) ⟨i + 1, hlt, rfl, rfl, rfl, ?_⟩
    rw [he]; rfl
  ·rw [List.drop_eq_nil_of_le (by omega), smFs] at he
   repeat' (first | refine AW.re 13 5 ?_ | refine AW.re 17 1 ?_ | refine AW.jj (fun hb => ?_) (fun hb => ?_) | refine AW.go ?_ | fail)
   all_goals try (exfalso; simp only [dT, dF, lM] at *; omega)
   exact AW.retv rfl ⟨by rw [he]; rfl, rfl⟩
theorem ref_Size (N : Nat) (hN : 1 ≤ N ∧ N ≤ 64) (f : GFml) (hok : f.Ok) (hsh : shsF f = true) (hnd : ndF f ≤ 100000) : Tri Tryz.prog 65 [f.st, .int .i64 N] [] (D (.int .i64 (if smF N f = true ∧ costF N f < 1099511627776 then 0 else 5)) []) := by
 have hF := ref_Fits03 N hN _ f (Nat.le_refl _) hok hsh hnd
 have hC := ref_Cost N ⟨by omega, by omega⟩ _ f (Nat.le_refl _) hok hsh hnd
 generalize smF N f = b at *
 generalize costF N f = c at *
 cases b with
 | false =>
  refine Tri.enter 15 Tryz.func65 rfl rfl rfl rfl fun Fr w0 => ?_
  repeat' (first | (refine AW.r 0 ?_; refine AL.d (AOp.box_ro rfl rfl) ?_; refine xN 1 ?_) | (refine xS 1 2 ?_; refine AL.d (AOp.call rfl rfl hF) ?_; refine AL.es 2 ?_; refine AL.es 2 ?_; refine AL.gs ?_; refine xN 2 ?_) | refine AW.re 2 1 ?_ | refine AW.jt ?_ | fail)
  all_goals try (exfalso; simp only [dT, dF, lM] at *; omega)
  exact AW.retv rfl ⟨rfl, rfl⟩
 | true =>
  refine Tri.enter 15 Tryz.func65 rfl rfl rfl rfl fun Fr w0 => ?_
  repeat' (first | (refine AW.r 0 ?_; refine AL.d (AOp.box_ro rfl rfl) ?_; refine xN 1 ?_) | (refine xS 1 2 ?_; refine AL.d (AOp.call rfl rfl hF) ?_; refine AL.es 2 ?_; refine AL.es 2 ?_; ((refine AL.gd ?_; (refine AL.d (AOp.call rfl rfl hC) ?_))) <;> refine AL.es 2 ?_ <;> refine AL.nil ?_) | refine AW.re 2 1 ?_ | refine AW.re 3 1 ?_ | refine AW.jj (fun hb => ?_) (fun hb => ?_) | fail)
  ·refine AW.retv rfl ⟨?_, rfl⟩
   rw [if_neg (by simp only [dT] at hb; omega)]; rfl
  ·refine AW.retv rfl ⟨?_, rfl⟩
   rw [if_pos (by simp only [dF] at hb; exact ⟨rfl, by omega⟩)]; rfl
theorem Tri.nil_sl {P : Program} {f : FuncId} {x : AV} {Φ : AEnd → AH → Prop} (h : Tri P f [x, .sl []] [] Φ) : Tri P f [x, .val (.slice none 0 0)] [] Φ :=
 ⟨h.1, fun Fr w vs hst hrel => by
  simp only [RelVs] at hrel
  obtain ⟨u1, us, rfl, h1, h1', u2, us2, rfl, h2, h2', rfl⟩ := hrel
  have hu2 : u2 = .slice none 0 0 := (show Rel (Sof Fr []) w (.val (.slice none 0 0)) u2 from ⟨h2, h2'⟩).val
  subst hu2
  have hn : Rel (Sof Fr []) w (.sl []) (.slice none 0 0) := Rel.as_sl rel_nil
  refine h.2 Fr w [u1, .slice none 0 0] hst ?_
  simp only [RelVs]
  exact ⟨_, _, rfl, h1, h1', _, _, rfl, hn.1, hn.2, rfl⟩⟩
def addN : List ByteArray → List ByteArray → List ByteArray
 | out, [] => out
 | out, x :: l => addN (bif has out x then out else out ++ [x]) l
theorem law_free (f : GFml) (hok : f.Ok) (hsh : shsF f = true) (hnd : ndF f ≤ 20000) (more : List ByteArray) (hm : more.length ≤ 1000) : Tri Tryz.prog 23 [f.st, strs more] [] (D (strs (addN (frF f) more)) []) := by
 have hfl : (frF f).length ≤ 1000000 := by have h1 := frF_len f; have h2 := agF_len f hsh; omega
 have hF := ref_Free _ f (Nat.le_refl _) hok (by have := agF_len f hsh; omega)
 generalize frF f = FF at *
 have hz : ∀ y ∈ FF.map AV.str, y.size = 1 := all_map fun _ => rfl
 refine Tri.enter 32 Tryz.func23 rfl rfl rfl rfl fun Fr w0 => ?_
 repeat' (first | (refine AW.r 0 ?_; refine AL.d (AOp.box_ro rfl rfl) ?_; refine xN 1 ?_) | refine AW.go ?_ | fail)
 repeat' (first | (refine AW.r 1 ?_; refine AL.lit_own (e := 9) (sz := 1) (by kernel_rfl) rfl rfl rfl P_nil (by decide) rfl fun b0 => ?_; refine AL.es 1 ?_; refine AL.d (AOp.call rfl rfl (hF.pure _)) ?_; refine AL.append (i := 0) (xs := []) (ys := FF.map AV.str) (e := 9) (sz := 1) (bytes := 16) rfl rfl rfl rfl (by kernel_rfl) (by kernel_rfl) P_nil hz (ok_map fun _ => rfl) (by simp only [List.length_nil, lM]; omega) (by simp only [List.length_nil, lM]; omega) rfl fun b1 c1 => ?_ <;> refine AL.es 1 ?_ <;> refine AL.nil ?_) | refine AW.go ?_ | fail)
 repeat' (first | refine AW.re 2 1 ?_ | refine AW.go ?_ | fail)
 refine AW.prune [1, 5, 6] (AW.loop (fun mz af h => ∃ (i : Nat) (out : List ByteArray) (tb : Option Nat) (tc : Nat), i ≤ more.length ∧ mz = more.length - i ∧ af = [(1, strs more), (5, .slt (out.map AV.str) tb tc), (6, .int .i64 i)] ∧ h = [.tail tb (out.map AV.str).length tc 1] ∧ (addN FF more = addN out (more.drop i) ∧ out.length ≤ FF.length + i)) more.length ⟨0, FF, b1, c1, Nat.zero_le _, rfl, rfl, rfl, ⟨rfl, Nat.le_refl _⟩⟩ ?_)
 rintro mz af h ⟨i, out, tb, tc, hi, rfl, rfl, rfl, he⟩
 refine AW.seq ?_
 by_cases hlt : i < more.length
 all_goals obtain ⟨he, hol⟩ := he
 ·obtain ⟨x, hx⟩ := get_lt hlt
  have hx' : (more.map AV.str)[((i : Nat) : Int).toNat]? = some (.str x) := map_get hx
  have hA : Tri Tryz.prog 17 [.sl (out.map AV.str), .str x] [] (D (.bool (has out x)) []) := Among_has out (by omega) x
  rw [drop_cons hx, addN] at he
  cases hb : has out x with
  | true =>
   rw [hb] at hA he
   repeat' (first | refine AW.re 3 4 ?_ | (refine xS 5 3 ?_; refine AL.d (iX hx') ?_; refine AL.d AOp.la ?_; refine AL.d (AOp.call_slt rfl rfl rfl (hA.pure _)) ?_; refine xN 1 ?_) | (refine xS 4 1 ?_; refine AL.d AOp.ad ?_; refine xN 1 ?_) | refine AW.jf ?_ | refine AW.jj (fun hb => ?_) (fun hb => ?_) | refine AW.go ?_ | fail)
   all_goals try (exfalso; simp only [dT, dF, lM] at *; omega)
   exact AW.again_keep (more.length - (i + 1)) [1, 5, 6] (by omega) ⟨i + 1, out, tb, tc, hlt, rfl, rfl, rfl, he, by omega⟩
  | false =>
   rw [hb] at hA he
   have hmm : (out ++ [x]).map AV.str = out.map AV.str ++ [.str x] := by simp
   repeat' (first | refine AW.re 3 4 ?_ | (refine xS 5 3 ?_; refine AL.d (iX hx') ?_; refine AL.d AOp.la ?_; refine AL.d (AOp.call_slt rfl rfl rfl (hA.pure _)) ?_; refine xN 1 ?_) | refine AW.jt ?_ | refine AW.jj (fun hb => ?_) (fun hb => ?_) | refine AW.go ?_ | fail)
   all_goals try (exfalso; simp only [dT, dF, lM] at *; omega)
   repeat' (first | (refine xS 6 3 ?_; refine AL.d (iX hx') ?_; refine AL.d AOp.la ?_; refine AL.d (AOp.lit (e := 9) (sz := 1) (by kernel_rfl) rfl rfl rfl (P_one rfl) (by decide)) ?_; refine AL.append (i := 0) (e := 9) (sz := 1) (bytes := 16) rfl rfl rfl rfl (by kernel_rfl) (by kernel_rfl) (by repeat' (exact P_map fun _ => rfl)) (by repeat' (exact P_one rfl)) (ok_all (by repeat' (exact P_one rfl))) (by (try simp only [lA, lM, List.length_take, List.length_drop, List.length_cons, List.length_nil, List.length_replicate]); omega) (by (try simp only [lA, lM, List.length_take, List.length_drop, List.length_cons, List.length_nil, List.length_replicate]); omega) rfl fun b' c' => ?_ <;> refine AL.es 1 ?_ <;> refine AL.nil ?_) | (refine xS 4 1 ?_; refine AL.d AOp.ad ?_; refine xN 1 ?_) | fail)
   refine AW.again_keep (more.length - (i + 1)) [1, 5, 6] (by omega) ⟨i + 1, out ++ [x], b', c', hlt, rfl, by rw [hmm]; rfl, by rw [hmm]; rfl, he, by simp; omega⟩
 ·rw [List.drop_eq_nil_of_le (by omega), addN] at he
  repeat' (first | refine AW.re 3 4 ?_ | refine AW.jj (fun hb => ?_) (fun hb => ?_) | refine AW.go ?_ | fail)
  all_goals try (exfalso; simp only [dT, dF, lM] at *; omega)
  refine AW.as_sl 5 rfl ?_
  refine AW.drop (List.nil_sublist _) ?_
  repeat' (first | refine AW.re 7 2 ?_ | fail)
  exact AW.retv rfl ⟨by rw [he]; rfl, rfl⟩
theorem law_free0 (f : GFml) (hok : f.Ok) (hsh : shsF f = true) (hnd : ndF f ≤ 20000) : Tri Tryz.prog 23 [f.st, .val (.slice none 0 0)] [] (D (strs (frF f)) []) :=
 Tri.nil_sl (law_free f hok hsh hnd [] (by simp))
theorem ref_Vars (f : GFml) (hok : f.Ok) (hsh : shsF f = true) (hnd : ndF f ≤ 20000) (vars : List ByteArray) (hv : vars.length ≤ 1000000) : Tri Tryz.prog 111 [f.st, strs vars] [] (D (.int .i64 (if namesG false true [] vars = true ∧ ((frF f).all fun v => has vars v) = true then 0 else 2)) []) := by
 have hfl : (frF f).length ≤ 1000000 := by have h1 := frF_len f; have h2 := agF_len f hsh; omega
 have hF := ref_Free _ f (Nat.le_refl _) hok (by have := agF_len f hsh; omega)
 generalize frF f = FF at *
 have hD := ref_Different vars (by omega)
 have hA := fun v => Among_has vars (by omega) v
 generalize namesG false true [] vars = df at *
 cases df with
 | false =>
  refine Tri.enter 25 Tryz.func111 rfl rfl rfl rfl fun Fr w0 => ?_
  repeat' (first | (refine AW.r 0 ?_; refine AL.d (AOp.box_ro rfl rfl) ?_; refine xN 1 ?_) | (refine xS 1 1 ?_; refine AL.d (AOp.call rfl rfl hF) ?_; refine xN 1 ?_) | (refine xS 2 1 ?_; refine AL.d (AOp.call rfl rfl hD) ?_; refine xN 1 ?_) | refine AW.re 3 1 ?_ | refine AW.jt ?_ | fail)
  all_goals try (exfalso; simp only [dT, dF, lM] at *; omega)
  exact AW.retv rfl ⟨rfl, rfl⟩
 | true =>
  refine Tri.enter 25 Tryz.func111 rfl rfl rfl rfl fun Fr w0 => ?_
  repeat' (first | (refine AW.r 0 ?_; refine AL.d (AOp.box_ro rfl rfl) ?_; refine xN 1 ?_) | (refine xS 1 1 ?_; refine AL.d (AOp.call rfl rfl hF) ?_; refine xN 1 ?_) | (refine xS 2 1 ?_; refine AL.d (AOp.call rfl rfl hD) ?_; refine xN 1 ?_) | refine AW.re 4 1 ?_ | refine AW.jf ?_ | refine AW.go ?_ | fail)
  all_goals try (exfalso; simp only [dT, dF, lM] at *; omega)
  refine AW.prune [1, 5, 6] (AW.loop (fun mz af h => ∃ (i : Nat), i ≤ FF.length ∧ mz = FF.length - i ∧ af = [(1, strs vars), (5, strs FF), (6, .int .i64 i)] ∧ h = [] ∧ (FF.all fun v => has vars v) = ((FF.drop i).all fun v => has vars v)) FF.length ⟨0, Nat.zero_le _, rfl, rfl, rfl, rfl⟩ ?_)
  rintro mz af h ⟨i, hi, rfl, rfl, rfl, he⟩
  refine AW.seq ?_
  by_cases hlt : i < FF.length
  ·obtain ⟨x, hx⟩ := get_lt hlt
   have hx' : (FF.map AV.str)[((i : Nat) : Int).toNat]? = some (.str x) := map_get hx
   have hAx := hA x
   rw [drop_cons hx, List.all_cons] at he
   generalize has vars x = b at *
   cases b with
   | false =>
    repeat' (first | refine AW.re 5 4 ?_ | (refine xS 7 3 ?_; refine AL.d (iX hx') ?_; refine AL.es 1 ?_; refine AL.d (AOp.call rfl rfl hAx) ?_; refine xN 1 ?_) | refine AW.re 8 1 ?_ | refine AW.jt ?_ | refine AW.jj (fun hb => ?_) (fun hb => ?_) | refine AW.go ?_ | fail)
    all_goals try (exfalso; simp only [dT, dF, lM] at *; omega)
    refine AW.retv rfl ⟨?_, rfl⟩
    rw [he, if_neg (by simp)]; rfl
   | true =>
    repeat' (first | refine AW.re 5 4 ?_ | (refine xS 7 3 ?_; refine AL.d (iX hx') ?_; refine AL.es 1 ?_; refine AL.d (AOp.call rfl rfl hAx) ?_; refine xN 1 ?_) | (refine xS 6 1 ?_; refine AL.d AOp.ad ?_; refine xN 1 ?_) | refine AW.jf ?_ | refine AW.jj (fun hb => ?_) (fun hb => ?_) | refine AW.go ?_ | fail)
    all_goals try (exfalso; simp only [dT, dF, lM] at *; omega)
    refine AW.again_keep (FF.length - (i + 1)) [1, 5, 6] (by omega) ⟨i + 1, hlt, rfl, rfl, rfl, ?_⟩
    rw [he]; rfl
  ·rw [List.drop_eq_nil_of_le (by omega)] at he
   repeat' (first | refine AW.re 5 4 ?_ | refine AW.re 9 1 ?_ | refine AW.jj (fun hb => ?_) (fun hb => ?_) | refine AW.go ?_ | fail)
   all_goals try (exfalso; simp only [dT, dF, lM] at *; omega)
   refine AW.retv rfl ⟨?_, rfl⟩
   rw [he, if_pos ⟨rfl, rfl⟩]; rfl
def chkI (f : GFml) (s : GStr) (vars : List ByteArray) : Int := if fitsB s (symL (ocF f [] [])) = false then 4 else if namesG false true [] vars = true ∧ ((frF f).all fun v => has vars v) = true then 0 else 2
theorem ref_Check (f : GFml) (s : GStr) (hok : f.Ok) (hs : s.Ok) (hv : validF f = true) (hsv : validStr s = true) (hnd : ndF f ≤ 20000) (vars : List ByteArray) (hvl : vars.length ≤ 1000000) : Tri Tryz.prog 64 [f.st, s.av, strs vars] [] (D (.int .i64 (chkI f s vars)) []) := by
 have hsh : shsF f = true := by unfold validF at hv; simp only [bA] at hv; exact hv.1.1.1.2
 have hV := ref_Valid f hok (by omega)
 have hVS := ref_ValidS s hs
 have hS := ref_Symbols f hok (by omega)
 have hsl : (symL (ocF f [] [])).length ≤ 40000 := by have h1 := symL_len (ocF f [] []); have h2 := ocF_len f [] []; simp at h2; omega
 have hFi := ref_Fits s hs (symL (ocF f [] [])) (by omega)
 have hVa := ref_Vars f hok hsh hnd vars hvl
 rw [hv] at hV
 rw [hsv] at hVS
 unfold chkI
 generalize (if namesG false true [] vars = true ∧ ((frF f).all fun v => has vars v) = true then (0 : Int) else 2) = va at *
 generalize symL (ocF f [] []) = SS at *
 generalize fitsB s SS = fb at *
 cases fb with
 | false =>
  refine Tri.enter 23 Tryz.func64 rfl rfl rfl rfl fun Fr w0 => ?_
  repeat' (first | (refine AW.r 0 ?_; refine AL.d (AOp.box_ro rfl rfl) ?_; refine AL.d (AOp.box_ro rfl rfl) ?_; refine xN 1 ?_) | (refine xS 1 1 ?_; refine AL.d (AOp.call rfl rfl hV) ?_; refine AL.es 2 ?_; refine AL.es 1 ?_; ((refine AL.gd ?_; (refine AL.d (AOp.call rfl rfl hVS) ?_))) <;> refine AL.es 2 ?_ <;> refine AL.nil ?_) | (refine AW.dq 3 ?_; refine AQ.es 2 ?_; refine AQ.p rfl (AOp.call rfl rfl hS) ?_; refine AQ.p rfl (AOp.call rfl rfl hFi) ?_; refine AQ.es 1 ?_; refine AQ.nil ?_) | refine AW.re 4 1 ?_ | refine AW.jt ?_ | refine AW.jf ?_ | fail)
  all_goals try (exfalso; simp only [dT, dF, lM] at *; omega)
  exact AW.retv rfl ⟨rfl, rfl⟩
 | true =>
  refine Tri.enter 23 Tryz.func64 rfl rfl rfl rfl fun Fr w0 => ?_
  repeat' (first | (refine AW.r 0 ?_; refine AL.d (AOp.box_ro rfl rfl) ?_; refine AL.d (AOp.box_ro rfl rfl) ?_; refine xN 1 ?_) | (refine xS 1 1 ?_; refine AL.d (AOp.call rfl rfl hV) ?_; refine AL.es 2 ?_; refine AL.es 1 ?_; ((refine AL.gd ?_; (refine AL.d (AOp.call rfl rfl hVS) ?_))) <;> refine AL.es 2 ?_ <;> refine AL.nil ?_) | (refine AW.dq 3 ?_; refine AQ.es 2 ?_; refine AQ.p rfl (AOp.call rfl rfl hS) ?_; refine AQ.p rfl (AOp.call rfl rfl hFi) ?_; refine AQ.es 1 ?_; refine AQ.nil ?_) | (refine xS 5 2 ?_; refine AL.d (AOp.call rfl rfl hVa) ?_; refine xN 1 ?_) | refine AW.jf ?_ | fail)
  all_goals try (exfalso; simp only [dT, dF, lM] at *; omega)
  exact AW.retv rfl ⟨rfl, rfl⟩
theorem rels_first {n : Int} {all : List GRel} : ∀ (l : List GRel) (i : Nat), relsGo n all i l = true → ∀ (j : Nat) r, l[j]? = some r → ∀ q ∈ all.take (i + j), q.Name ≠ r.Name
 | [], _, _, j, r, hj => by simp at hj
 | x :: l, i, h, j, r, hj => by
  rw [relsGo, bA, bA] at h
  intro q hq
  cases j with
  | zero =>
   obtain rfl : x = r := by simpa using hj
   have h2 := h.1.2
   rw [Bool.not_eq_true', List.any_eq_false] at h2
   simpa using h2 q hq
  | succ j => exact rels_first l (i + 1) h.2 j r (by simpa using hj) q (by rw [show i + 1 + j = i + (j + 1) by omega]; exact hq)
theorem find_uniq {s : GStr} (hv : validStr s = true) {r : GRel} (h : r ∈ s.Rels) : s.Rels.find? (fun q => decide (q.Name = r.Name)) = some r := by
 have hg : relsGo s.Size s.Rels 0 s.Rels = true := by unfold validStr at hv; simp only [bA] at hv; exact hv.2
 obtain ⟨j, hj⟩ := List.getElem?_of_mem h
 cases hf : s.Rels.find? (fun q => decide (q.Name = r.Name)) with
 | none => rw [List.find?_eq_none] at hf; exact absurd (by simp) (hf r h)
 | some q =>
  have hq : q.Name = r.Name := by simpa using List.find?_some hf
  obtain ⟨k, hk⟩ := List.getElem?_of_mem (List.mem_of_find?_eq_some hf)
  rcases Nat.lt_trichotomy k j with hlt | rfl | hlt
  ·exact absurd hq (rels_first _ 0 hg j r hj q (List.mem_iff_getElem?.2 ⟨k, by rw [List.getElem?_take, if_pos (by omega)]; exact hk⟩))
  ·rw [hk] at hj; exact hj
  ·exact absurd hq.symm (rels_first _ 0 hg k q hk r (List.mem_iff_getElem?.2 ⟨j, by rw [List.getElem?_take, if_pos (by omega)]; exact hj⟩))
theorem lkT_mem {α : Type} {s : ByteArray} {b : α} : ∀ {T : List (ByteArray × α)}, lkT T s = some b → (s, b) ∈ T
 | [], h => by cases h
 | p :: T, h => by
  rw [lkT] at h
  cases hr : lkT T s with
  | some x => rw [hr] at h; obtain rfl := Option.some.inj h; exact List.mem_cons_of_mem _ (lkT_mem hr)
  | none =>
   rw [hr] at h
   simp only at h
   split at h
   ·rename_i e; obtain rfl := Option.some.inj h; rw [← e]; exact List.mem_cons_self ..
   ·cases h
theorem pairG_in : ∀ (l pre : List GSym), pairG pre l = true → ∀ (i : Nat) x, l[i]? = some x → ∀ y ∈ pre ++ l.take i, y.Name = x.Name → y.Arity = x.Arity
 | [], pre, _, i, x, hi, y, hy, e => by simp at hi
 | z :: l, pre, h, i, x, hi, y, hy, e => by
  rw [pairG, bA] at h
  cases i with
  | zero =>
   obtain rfl : z = x := by simpa using hi
   have := List.all_eq_true.1 h.1 y (by simpa using hy)
   unfold clashB at this
   simpa [e] using this
  | succ i =>
   refine pairG_in l (pre ++ [z]) h.2 i x (by simpa using hi) y ?_ e
   simpa [List.append_assoc] using hy
theorem pairG_eq {l : List GSym} (h : pairG [] l = true) {x y : GSym} (hx : x ∈ l) (hy : y ∈ l) (e : x.Name = y.Name) : x.Arity = y.Arity := by
 obtain ⟨i, hi⟩ := List.getElem?_of_mem hx
 obtain ⟨j, hj⟩ := List.getElem?_of_mem hy
 rcases Nat.lt_trichotomy i j with hlt | rfl | hlt
 ·exact pairG_in l [] h j y hj x (by rw [List.nil_append]; exact List.mem_iff_getElem?.2 ⟨i, by rw [List.getElem?_take, if_pos hlt]; exact hi⟩) e
 ·rw [hi] at hj; rw [Option.some.inj hj]
 ·exact (pairG_in l [] h i x hi y (by rw [List.nil_append]; exact List.mem_iff_getElem?.2 ⟨j, by rw [List.getElem?_take, if_pos hlt]; exact hj⟩) e.symm).symm
theorem okF_str {N : Nat} {f : GFml} {s : GStr} (hv : validF f = true) (hs : SOk N s) (hsv : validStr s = true) (hf : fitsB s (symL (ocF f [] [])) = true) (hsm : smF N f = true) : okF N f (tl (strT N s)) := by
 unfold validF at hv
 simp only [bA] at hv
 suffices key : ∀ y ∈ ocF f [] [], ∀ c, lkT (tl (strT N s)) y.Name = some c → c = N ^ y.Arity.toNat ∧ c ≤ 4096 by
  have hL : LB_ N (tl (strT N s)) [] (fun y => ∀ c, lkT (tl (strT N s)) y.Name = some c → c = N ^ y.Arity.toNat ∧ c ≤ 4096) := by
   refine ⟨fun nm m h => (by cases h), fun nm _ y hy e c hc => ?_⟩
   exact hy c (by rw [e]; exact hc)
  exact okF_of N f [] (tl (strT N s)) _ hv.1.1.1.2 hv.1.1.2 hsm hL key
 intro y hy c hc
 have hm := lkT_mem hc
 unfold tl strT at hm
 rw [List.map_map, List.mem_map] at hm
 obtain ⟨r, hr, e⟩ := hm
 obtain ⟨e1, e2⟩ := Prod.mk.inj e
 have e1 : r.Name = y.Name := e1
 obtain ⟨z, hz, ez⟩ := symL_name hy
 have hfa := List.all_eq_true.1 hf z hz
 unfold fitA at hfa
 rw [ez, ← e1, find_uniq hsv hr] at hfa
 have ha : r.Arity = y.Arity := (of_decide_eq_true hfa).trans (pairG_eq hv.2 (symL_sub hz) hy ez)
 obtain ⟨k, hk, _, hk4, _⟩ := hs.rel r hr
 have hlen : (tabN N r.Tuples (falses (N ^ r.Arity.toNat))).length = N ^ r.Arity.toNat := by rw [tabN_len, falses_len]
 have e2 : (tabN N r.Tuples (falses (N ^ r.Arity.toNat))).length = c := e2
 rw [hlen] at e2
 rw [← e2, ← ha]
 exact ⟨rfl, by rw [hk, Int.toNat_natCast]; exact hk4⟩
theorem law_evaluated (M : Nat) (hM : 5001 < M) (f : GFml) (s : GStr) (vars : List ByteArray) (hok : f.Ok) (hs : s.Ok) (hv : validF f = true) (hnd : ndF f ≤ 1500) (hvl : vars.length ≤ 24) :
  Tri Tryz.prog 24 [f.st, s.av, strs vars] [] (fun x h => ∃ v b, x = .ret (.tup [v, .bool b]) ∧ h = [] ∧ (b = true → ∃ N, SOk N s ∧ N ^ vars.length ≤ 4096 ∧ v = .sl ((qryL N M f (strT N s) vars (N ^ vars.length)).map ints))) := by
 have hVS := ref_ValidS s hs
 have hvv := hv
 unfold validF at hvv
 simp only [bA] at hvv
 have hsh : shsF f = true := hvv.1.1.1.2
 have hg : grF f = true := hvv.1.2
 cases hsv : validStr s with
 | false =>
  rw [hsv] at hVS
  refine Tri.enter 58 Tryz.func24 rfl rfl rfl rfl fun Fr w0 => ?_
  repeat' (first | (refine AW.r 0 ?_; refine AL.d (AOp.box_ro rfl rfl) ?_; refine AL.d (AOp.box_ro rfl rfl) ?_; refine xN 2 ?_) | (refine AW.dq 1 ?_; refine AQ.es 1 ?_; refine AQ.p rfl (AOp.call rfl rfl hVS) ?_; refine AQ.es 2 ?_; refine AQ.es 4 ?_; refine AQ.k ?_; refine AQ.es 3 ?_; refine AQ.es 3 ?_; refine AQ.k ?_; refine AQ.es 3 ?_; refine AQ.es 3 ?_; refine AQ.k ?_; refine AQ.es 3 ?_; refine AQ.es 3 ?_; refine AQ.k ?_; refine AQ.es 4 ?_; refine AQ.k ?_; refine AQ.k ?_; refine AQ.es 2 ?_; refine AQ.nil ?_) | refine AW.re 2 2 ?_ | refine AW.jt ?_ | fail)
  all_goals try (exfalso; simp only [dT, dF, lM] at *; omega)
  exact AW.retv rfl ⟨_, false, rfl, rfl, fun h => by cases h⟩
 | true =>
  rw [hsv] at hVS
  obtain ⟨N, hS⟩ := SOk_of hsv
  have hCk := ref_Check f s hok hs hv hsv (by omega) vars (by omega)
  have hSz := ref_Size N ⟨hS.n1, hS.n2⟩ f hok hsh (by omega)
  have hCo := ref_Cost N ⟨by have := hS.n1; omega, by have := hS.n2; omega⟩ _ f (Nat.le_refl _) hok hsh (by omega)
  have hcB := costF_B (N := N) ⟨by have := hS.n1; omega, by have := hS.n2; omega⟩ f
  have hP := ref_Pow N vars.length (by have := hS.n1; have := hS.n2; omega) (by omega)
  have hpv := ppow_val hS.n1 vars.length 1 (Nat.le_refl _)
  rw [Nat.one_mul] at hpv
  have hQ := fun h1 h2 => ref_Query N M f s vars hM hs hS hok hsh hg hnd hvl h1 h2
  have hOk := okF_str (N := N) hv hS hsv
  have hsa : s.av = .st [.int .i64 N, .sl (s.Rels.map GRel.av)] := by unfold GStr.av; rw [hS.size]
  rw [hsa] at hVS hCk hQ ⊢
  have hvlen : ((vars.map AV.str).length : Int) = vars.length := by simp
  rw [← hvlen] at hP
  rw [hvlen, Int.toNat_natCast] at hP
  rw [← hvlen] at hP
  have hfit : chkI f s vars = 0 → fitsB s (symL (ocF f [] [])) = true := fun h => by
   unfold chkI at h
   cases hf : fitsB s (symL (ocF f [] [])) with
   | true => rfl
   | false => rw [if_pos hf] at h; cases h
  obtain ⟨c0, c1⟩ := hcB
  by_cases hp : ppow N vars.length 1 ≤ 4096
  ·have hp4 := hpv.2.1 hp
   have hp1 := hpv.2.2
   have hp1 : 1 ≤ ppow N vars.length 1 := hp1
   clear hpv
   generalize hL : ppow N vars.length 1 = p at *
   by_cases hc : chkI f s vars = 0
   ·have hOk := hOk (hfit hc)
    rw [hc] at hCk
    by_cases hz : smF N f = true ∧ costF N f < 1099511627776
    ·rw [if_pos hz] at hSz
     have hQ := hQ hp4 (hOk hz.1)
     generalize costF N f = cst at *
     have hm1 := Int.mul_le_mul c1 hp (by omega) (by omega)
     have hm0 := Int.mul_nonneg c0 (show 0 ≤ p by omega)
     by_cases hm : cst * p > 400000
     ·refine Tri.enter 58 Tryz.func24 rfl rfl rfl rfl fun Fr w0 => ?_
      repeat' (first | (refine AW.r 0 ?_; refine AL.d (AOp.box_ro rfl rfl) ?_; refine AL.d (AOp.box_ro rfl rfl) ?_; refine xN 2 ?_) | (refine AW.dq 1 ?_; refine AQ.es 1 ?_; refine AQ.p rfl (AOp.call rfl rfl hVS) ?_; refine AQ.es 2 ?_; refine AQ.es 4 ?_; refine AQ.gp rfl (AOp.call rfl rfl hP) ?_; refine AQ.es 3 ?_; ((refine AQ.x (fun hb => ?_) (fun hb => ?_) <;> refine AQ.es 3 ?_)) <;> (first | refine AQ.gp rfl (AOp.call rfl rfl hCk) ?_ | refine AQ.k ?_) <;> refine AQ.es 3 ?_ <;> (refine AQ.es 3 ?_) <;> (first | refine AQ.gp rfl (AOp.call rfl rfl hSz) ?_ | refine AQ.k ?_) <;> refine AQ.es 3 ?_ <;> (refine AQ.es 3 ?_) <;> (first | refine AQ.gp rfl (AOp.call rfl rfl hCo) ?_ | refine AQ.k ?_) <;> refine AQ.es 4 ?_ <;> (first | refine AQ.gp rfl (AOp.call rfl rfl hP) ?_ | refine AQ.k ?_) <;> (first | refine AQ.gp rfl (AOp.mul rfl rfl (by omega)) ?_ | refine AQ.k ?_) <;> refine AQ.es 2 ?_ <;> refine AQ.nil ?_) | refine AW.re 2 2 ?_ | refine AW.jt ?_ | refine AW.jj (fun hb => ?_) (fun hb => ?_) | refine AW.go ?_ | fail)
      all_goals try (exfalso; simp only [dT, dF] at *; omega)
      exact AW.retv rfl ⟨_, false, rfl, rfl, fun h => by cases h⟩
     ·refine Tri.enter 58 Tryz.func24 rfl rfl rfl rfl fun Fr w0 => ?_
      repeat' (first | (refine AW.r 0 ?_; refine AL.d (AOp.box_ro rfl rfl) ?_; refine AL.d (AOp.box_ro rfl rfl) ?_; refine xN 2 ?_) | (refine AW.dq 1 ?_; refine AQ.es 1 ?_; refine AQ.p rfl (AOp.call rfl rfl hVS) ?_; refine AQ.es 2 ?_; refine AQ.es 4 ?_; refine AQ.gp rfl (AOp.call rfl rfl hP) ?_; refine AQ.es 3 ?_; ((refine AQ.x (fun hb => ?_) (fun hb => ?_) <;> refine AQ.es 3 ?_)) <;> (first | refine AQ.gp rfl (AOp.call rfl rfl hCk) ?_ | refine AQ.k ?_) <;> refine AQ.es 3 ?_ <;> (refine AQ.es 3 ?_) <;> (first | refine AQ.gp rfl (AOp.call rfl rfl hSz) ?_ | refine AQ.k ?_) <;> refine AQ.es 3 ?_ <;> (refine AQ.es 3 ?_) <;> (first | refine AQ.gp rfl (AOp.call rfl rfl hCo) ?_ | refine AQ.k ?_) <;> refine AQ.es 4 ?_ <;> (first | refine AQ.gp rfl (AOp.call rfl rfl hP) ?_ | refine AQ.k ?_) <;> (first | refine AQ.gp rfl (AOp.mul rfl rfl (by omega)) ?_ | refine AQ.k ?_) <;> refine AQ.es 2 ?_ <;> refine AQ.nil ?_) | refine AW.re 2 2 ?_ | refine AW.jt ?_ | refine AW.jj (fun hb => ?_) (fun hb => ?_) | refine AW.go ?_ | fail)
      all_goals try (exfalso; simp only [dT, dF] at *; omega)
      repeat' (first | (refine xS 3 3 ?_; refine AL.callQ rfl rfl hQ rfl ?_ ?_; rotate_left; rintro _ _ ⟨_, e, _⟩; cases e; rintro _ _ ⟨lg, e, rfl⟩; injection e with e; subst e <;> refine AL.es 5 ?_ <;> refine AL.nil ?_) | refine AW.re 4 5 ?_ | fail)
      exact AW.retv rfl ⟨_, !lg, rfl, rfl, fun _ => ⟨N, hS, hp4, rfl⟩⟩
    ·rw [if_neg hz] at hSz
     refine Tri.enter 58 Tryz.func24 rfl rfl rfl rfl fun Fr w0 => ?_
     repeat' (first | (refine AW.r 0 ?_; refine AL.d (AOp.box_ro rfl rfl) ?_; refine AL.d (AOp.box_ro rfl rfl) ?_; refine xN 2 ?_) | (refine AW.dq 1 ?_; refine AQ.es 1 ?_; refine AQ.p rfl (AOp.call rfl rfl hVS) ?_; refine AQ.es 2 ?_; refine AQ.es 4 ?_; refine AQ.gp rfl (AOp.call rfl rfl hP) ?_; refine AQ.es 3 ?_; ((refine AQ.x (fun hb => ?_) (fun hb => ?_) <;> refine AQ.es 3 ?_)) <;> (first | refine AQ.gp rfl (AOp.call rfl rfl hCk) ?_ | refine AQ.k ?_) <;> refine AQ.es 3 ?_ <;> (refine AQ.es 3 ?_) <;> (first | refine AQ.gp rfl (AOp.call rfl rfl hSz) ?_ | refine AQ.k ?_) <;> refine AQ.es 3 ?_ <;> (refine AQ.es 3 ?_) <;> (refine AQ.k ?_) <;> refine AQ.es 4 ?_ <;> (refine AQ.k ?_) <;> (refine AQ.k ?_) <;> refine AQ.es 2 ?_ <;> refine AQ.nil ?_) | refine AW.re 2 2 ?_ | refine AW.jt ?_ | fail)
     all_goals try (exfalso; simp only [dT, dF] at *; omega)
     exact AW.retv rfl ⟨_, false, rfl, rfl, fun h => by cases h⟩
   ·generalize chkI f s vars = ck at *
    refine Tri.enter 58 Tryz.func24 rfl rfl rfl rfl fun Fr w0 => ?_
    repeat' (first | (refine AW.r 0 ?_; refine AL.d (AOp.box_ro rfl rfl) ?_; refine AL.d (AOp.box_ro rfl rfl) ?_; refine xN 2 ?_) | (refine AW.dq 1 ?_; refine AQ.es 1 ?_; refine AQ.p rfl (AOp.call rfl rfl hVS) ?_; refine AQ.es 2 ?_; refine AQ.es 4 ?_; refine AQ.gp rfl (AOp.call rfl rfl hP) ?_; refine AQ.es 3 ?_; ((refine AQ.x (fun hb => ?_) (fun hb => ?_) <;> refine AQ.es 3 ?_)) <;> (first | (exfalso; simp only [dT, dF, lM, bne_iff_ne, ne_eq, bne_eq_false_iff_eq, beq_iff_eq, beq_eq_false_iff_ne] at *; omega) | refine AQ.gp rfl (AOp.call rfl rfl hCk) ?_) <;> refine AQ.es 3 ?_ <;> ((refine AQ.x (fun hb => ?_) (fun hb => ?_) <;> refine AQ.es 3 ?_)) <;> (first | (exfalso; simp only [dT, dF, lM, bne_iff_ne, ne_eq, bne_eq_false_iff_eq, beq_iff_eq, beq_eq_false_iff_ne] at *; omega) | refine AQ.k ?_) <;> refine AQ.es 3 ?_ <;> (refine AQ.es 3 ?_) <;> (refine AQ.k ?_) <;> refine AQ.es 4 ?_ <;> (refine AQ.k ?_) <;> (refine AQ.k ?_) <;> refine AQ.es 2 ?_ <;> refine AQ.nil ?_) | refine AW.re 2 2 ?_ | refine AW.jt ?_ | fail)
    all_goals try (exfalso; simp only [dT, dF, bne_iff_ne, ne_eq, bne_eq_false_iff_eq] at *; omega)
    exact AW.retv rfl ⟨_, false, rfl, rfl, fun h => by cases h⟩
  ·refine Tri.enter 58 Tryz.func24 rfl rfl rfl rfl fun Fr w0 => ?_
   repeat' (first | (refine AW.r 0 ?_; refine AL.d (AOp.box_ro rfl rfl) ?_; refine AL.d (AOp.box_ro rfl rfl) ?_; refine xN 2 ?_) | (refine AW.dq 1 ?_; refine AQ.es 1 ?_; refine AQ.p rfl (AOp.call rfl rfl hVS) ?_; refine AQ.es 2 ?_; refine AQ.es 4 ?_; refine AQ.gp rfl (AOp.call rfl rfl hP) ?_; refine AQ.es 3 ?_; ((refine AQ.x (fun hb => ?_) (fun hb => ?_) <;> refine AQ.es 3 ?_)) <;> (first | (exfalso; simp only [dT, dF, lM, bne_iff_ne, ne_eq, bne_eq_false_iff_eq, beq_iff_eq, beq_eq_false_iff_ne] at *; omega) | refine AQ.k ?_) <;> refine AQ.es 3 ?_ <;> (refine AQ.es 3 ?_) <;> (refine AQ.k ?_) <;> refine AQ.es 3 ?_ <;> (refine AQ.es 3 ?_) <;> (refine AQ.k ?_) <;> refine AQ.es 4 ?_ <;> (refine AQ.k ?_) <;> (refine AQ.k ?_) <;> refine AQ.es 2 ?_ <;> refine AQ.nil ?_) | refine AW.re 2 2 ?_ | refine AW.jt ?_ | fail)
   all_goals try (exfalso; simp only [dT, dF] at *; omega)
   exact AW.retv rfl ⟨_, false, rfl, rfl, fun h => by cases h⟩
structure InN (q : Bool) (z x : GFml) : Prop where
 shs : shsF z = true → shsF x = true
 nd : ndF x + 1 ≤ ndF z
 dp : dpF x + 1 ≤ dpF z
 fv : ∀ s, fvB s x = true → fvB s z = true
 ar : ∀ b, arF z b = true → arF x b = true
 pos : ∀ s odd part, posF s z odd part = true → posF s x (q != odd) part = true
 gr : grF z = true → grF x = true
 oc : ∀ y bd, y ∈ ocF x bd [] → y ∈ ocF z bd []
 ok : z.Ok → x.Ok
theorem InN.trans {q r : Bool} {z x y : GFml} (a : InN q z x) (b : InN r x y) : InN (r != q) z y :=
 ⟨fun h => b.shs (a.shs h), by have := a.nd; have := b.nd; omega, by have := a.dp; have := b.dp; omega, fun s h => a.fv s (b.fv s h), fun s h => b.ar s (a.ar s h), fun s o p h => by have := b.pos s _ p (a.pos s o p h); cases r <;> cases q <;> cases o <;> exact this, fun h => b.gr (a.gr h), fun y bd h => a.oc y bd (b.oc y bd h), fun h => b.ok (a.ok h)⟩
theorem inN {z x : GFml} (hk : z.Kind = 3 ∨ z.Kind = 4 ∨ z.Kind = 5) (hs : shapedP z = true) (hx : x ∈ z.Kids) : InN (z.Kind == 3) z x := by
 have hv : z.Vars = [] := shaped_no hs (by omega)
 obtain ⟨k, ar, nm, vars, args, kids⟩ := z
 simp only at hv hk hx
 subst hv
 have k0 : (k == 0) = false := by simp; omega
 have k8 : (k == 8) = false := by simp; omega
 have k9 : (k == 9) = false := by simp; omega
 have k11 : (k == 11) = false := by simp; omega
 have hb : bindsB ⟨k, ar, nm, [], args, kids⟩ = false := by simp only [bindsB, k8, k9, k11]; rfl
 have hc : ∀ bd : List ByteArray, (k == 0 && !(bd.any fun x => decide (x = nm))) = false := fun bd => by rw [k0]; rfl
 refine ⟨fun h => ?_, ?_, ?_, fun s h => ?_, fun b h => ?_, fun s odd part h => ?_, fun h => ?_, fun y bd h => ?_, fun h => ?_⟩
 ·rw [shsF, bA] at h; exact shsFs_mem h.1 hx
 ·have := ndFs_mem hx; rw [ndF]; omega
 ·have := dpFs_mem hx; rw [dpF]; omega
 ·rw [fvB, fvBL_any, Bool.or_eq_true, bA]
  exact .inr ⟨rfl, List.any_eq_true.2 ⟨x, hx, h⟩⟩
 ·rw [arF, k0, cond_false, hb, cond_false, arFs_all] at h
  exact List.all_eq_true.1 h x hx
 ·rw [posF, k0, cond_false, hb, Bool.false_and, cond_false, k9, Bool.or_false, posFs_all] at h
  have := List.all_eq_true.1 h x hx
  show posF s x ((k == 3) != odd) part = true
  cases hk3 : k == 3 with
  | true => rw [hk3] at this; cases odd <;> exact this
  | false => rw [hk3] at this; cases odd <;> exact this
 ·rw [grF, bA, grFs_all] at h
  exact List.all_eq_true.1 h.2 x hx
 ·rw [ocF, hc, cond_false, hb, cond_false, ocFs_in]
  exact ⟨x, hx, h⟩
 ·obtain ⟨_, _, h7⟩ := h
  exact h7 x hx
theorem InN.good {f x : GFml} (h : InN false f x) (hs : shsF f = true) (hsem : ∀ N M T V, 1 ≤ N → sem N M x T V = sem N M f T V) : Good f x :=
 ⟨h.shs hs, by have := h.nd; omega, by have := h.dp; omega, h.fv, h.ar, fun s odd part k => by have := h.pos s odd part k; cases odd <;> exact this, h.gr, h.oc, h.ok, hsem⟩
theorem shaped_fewer {k ar : Int} {nm : ByteArray} {vars args : List ByteArray} {kids o : List GFml} (hk : k = 4 ∨ k = 5) (hl : o.length ≤ 1073741824) (h : shapedP ⟨k, ar, nm, vars, args, kids⟩ = true) : shapedP ⟨k, ar, nm, vars, args, o⟩ = true := by
 simp only [shapedP, shp1, shp2, shp3, bA] at h ⊢
 refine ⟨⟨⟨⟨⟨?_, ?_⟩, h.1.1.1.2⟩, h.1.1.2⟩, h.1.2⟩, h.2⟩
 ·rcases hk with rfl | rfl <;> simp [rulesP]
 ·rcases hk with rfl | rfl <;> (simp [rulesP]; omega)
theorem good_many {f : GFml} {o : List GFml} (hk : f.Kind = 4 ∨ f.Kind = 5) (hs : shsF f = true) (hin : ∀ x ∈ o, InN false f x) (hnd : ndFs o ≤ ndFs f.Kids) (hsz : ndF f ≤ 1073741824) (hsem : ∀ N M T V, 1 ≤ N → sem N M { f with Kids := o } T V = sem N M f T V) : Good f { f with Kids := o } := by
 obtain ⟨k, ar, nm, vars, args, kids⟩ := f
 simp only at *
 have hs2 := hs
 rw [shsF, bA] at hs2
 have hol := ndFs_len o
 rw [ndF] at hsz
 have k0 : (k == 0) = false := by simp; omega
 have k3 : (k == 3) = false := by simp; omega
 have k8 : (k == 8) = false := by simp; omega
 have k9 : (k == 9) = false := by simp; omega
 have k11 : (k == 11) = false := by simp; omega
 have hb : ∀ l, bindsB ⟨k, ar, nm, vars, args, l⟩ = false := fun l => by simp only [bindsB, k8, k9, k11]; rfl
 have hc : ∀ bd : List ByteArray, (k == 0 && !(bd.any fun x => decide (x = nm))) = false := fun bd => by rw [k0]; rfl
 refine ⟨?_, ?_, ?_, fun s h => ?_, fun b h => ?_, fun s odd part h => ?_, fun h => ?_, fun y bd h => ?_, fun h => ?_, hsem⟩
 ·rw [shsF, bA, shsFs_all, List.all_eq_true]
  exact ⟨fun x hx => (hin x hx).shs hs, shaped_fewer hk (by omega) hs2.2⟩
 ·rw [ndF, ndF]; omega
 ·have := dpFs_le (n := dpFs kids) (l := o) fun x hx => by have := (hin x hx).dp; rw [dpF_eq ⟨k, ar, nm, vars, args, kids⟩] at this; simp only at this; omega
  rw [dpF, dpF]; omega
 ·rw [fvB, fvBL_any, Bool.or_eq_true, bA, List.any_eq_true] at h
  rcases h with h | ⟨_, x, hx, h⟩
  ·rw [fvB, h]; rfl
  ·exact (hin x hx).fv s h
 ·rw [arF, k0, cond_false, hb, cond_false, arFs_all, List.all_eq_true]
  exact fun x hx => (hin x hx).ar b h
 ·rw [posF, k0, cond_false, hb, Bool.false_and, cond_false, k9, Bool.or_false, posFs_all, List.all_eq_true, k3, cond_false]
  exact fun x hx => by have := (hin x hx).pos s odd part h; cases odd <;> exact this
 ·rw [grF, k8, Bool.false_and, grFs_all, Bool.not_false, Bool.true_and, List.all_eq_true]
  exact fun x hx => (hin x hx).gr h
 ·rw [ocF, hc, cond_false, hb, cond_false, ocFs_in] at h
  obtain ⟨x, hx, h⟩ := h
  exact (hin x hx).oc y bd h
 ·have ho := h
  obtain ⟨h1, h6, h7⟩ := h
  exact .mk h1 (by simp only; omega) fun x hx => (hin x hx).ok ho
def addK (o : List GFml) (x : GFml) : List GFml := bif o.any (fun g => eqF g x) then o else o ++ [x]
def addKs : List GFml → List GFml → List GFml
 | [], o => o
 | x :: l, o => addKs l (addK o x)
def fl1 (k : Int) (x : GFml) : List GFml := bif x.Kind == k then x.Kids else [x]
def flA (k : Int) (l : List GFml) : List GFml := l.flatMap (fl1 k)
def jnK (k : Int) : List GFml → List GFml → Option (List GFml)
 | [], o => some o
 | x :: l, o => bif cst x then (bif x.Kind == k then jnK k l o else none) else jnK k l (addKs (fl1 k x) o)
def jnF (f : GFml) : GFml := match jnK f.Kind f.Kids [] with
 | none => trF (!(f.Kind == 4))
 | some [x] => x
 | some o => { f with Kids := o }
theorem addK_sub (o : List GFml) (x : GFml) : (addK o x).Sublist (o ++ [x]) := by
 unfold addK
 cases o.any fun g => eqF g x with
 | true => exact List.sublist_append_left ..
 | false => exact List.Sublist.refl _
theorem addKs_sub : ∀ (l o : List GFml), (addKs l o).Sublist (o ++ l)
 | [], o => by rw [addKs, List.append_nil]; exact List.Sublist.refl _
 | x :: l, o => by
  rw [addKs, show o ++ x :: l = (o ++ [x]) ++ l by simp]
  exact (addKs_sub l (addK o x)).trans ((addK_sub o x).append (List.Sublist.refl l))
theorem jnK_sub (k : Int) : ∀ (l o r : List GFml), jnK k l o = some r → r.Sublist (o ++ flA k l)
 | [], o, r, h => by rw [jnK] at h; rw [← Option.some.inj h]; simp [flA]
 | x :: l, o, r, h => by
  rw [jnK] at h
  unfold flA
  rw [List.flatMap_cons]
  cases hc : cst x with
  | true =>
   rw [hc, cond_true] at h
   cases hk : x.Kind == k with
   | false => rw [hk] at h; cases h
   | true =>
    rw [hk, cond_true] at h
    exact (jnK_sub k l o r h).trans ((List.Sublist.refl o).append (List.sublist_append_right ..))
  | false =>
   rw [hc, cond_false] at h
   refine (jnK_sub k l _ r h).trans ?_
   rw [← List.append_assoc]
   exact (addKs_sub _ o).append (List.Sublist.refl _)
theorem fl1_nd (k : Int) (x : GFml) : ndFs (fl1 k x) ≤ ndF x := by
 unfold fl1
 cases x.Kind == k with
 | true => rw [cond_true, ndF_eq x]; omega
 | false => rw [cond_false, ndFs, ndFs]; omega
theorem flA_nd (k : Int) : ∀ l : List GFml, ndFs (flA k l) ≤ ndFs l
 | [] => Nat.le_refl _
 | x :: l => by
  have h1 := fl1_nd k x
  have h2 := flA_nd k l
  unfold flA at h2 ⊢
  rw [List.flatMap_cons, ndFs_app, ndFs]; omega
theorem flA_in {f x : GFml} (hk : f.Kind = 4 ∨ f.Kind = 5) (hs : shsF f = true) (hx : x ∈ flA f.Kind f.Kids) : InN false f x := by
 have k3 : (f.Kind == 3) = false := by simp; omega
 rw [shsF_eq, bA] at hs
 unfold flA at hx
 obtain ⟨z, hz, h⟩ := List.mem_flatMap.1 hx
 have h1 := inN (.inr hk) hs.2 hz
 rw [k3] at h1
 unfold fl1 at h
 cases he : z.Kind == f.Kind with
 | false => rw [he, cond_false] at h; rw [List.mem_singleton.1 h]; exact h1
 | true =>
  rw [he, cond_true] at h
  have he : z.Kind = f.Kind := by simpa using he
  have hzs := shsFs_mem hs.1 hz
  rw [shsF_eq, bA] at hzs
  have h2 := inN (.inr (by rw [he]; exact hk)) hzs.2 h
  rw [he, k3] at h2
  exact h1.trans h2
section
variable (p : GFml → Bool)
theorem addK_all (o : List GFml) (x : GFml) : (addK o x).all p = (o.all p && p x) := by
 unfold addK
 cases h : o.any fun g => eqF g x with
 | false => simp
 | true =>
  obtain ⟨g, hg, e⟩ := List.any_eq_true.1 h
  rw [cond_true, ← eqF_eq g x e]
  cases ha : o.all p with
  | false => rfl
  | true => rw [List.all_eq_true.1 ha g hg]; rfl
theorem addKs_all : ∀ l o : List GFml, (addKs l o).all p = (o.all p && l.all p)
 | [], o => by simp [addKs]
 | x :: l, o => by rw [addKs, addKs_all l, addK_all, List.all_cons, Bool.and_assoc]
theorem addK_any (o : List GFml) (x : GFml) : (addK o x).any p = (o.any p || p x) := by
 unfold addK
 cases h : o.any fun g => eqF g x with
 | false => simp
 | true =>
  obtain ⟨g, hg, e⟩ := List.any_eq_true.1 h
  rw [cond_true, ← eqF_eq g x e]
  cases ha : o.any p with
  | true => rfl
  | false =>
   cases hp : p g with
   | false => rfl
   | true => rw [List.any_eq_true.2 ⟨g, hg, hp⟩] at ha; cases ha
theorem addKs_any : ∀ l o : List GFml, (addKs l o).any p = (o.any p || l.any p)
 | [], o => by simp [addKs]
 | x :: l, o => by rw [addKs, addKs_any l, addK_any, List.any_cons, Bool.or_assoc]
end
section
variable (N M : Nat) (T : TT) (V : VV)
theorem sem4 {x : GFml} (h : x.Kind = 4) : sem N M x T V = x.Kids.all fun y => sem N M y T V := by
 obtain ⟨k, ar, nm, vars, args, kids⟩ := x
 simp only at h
 subst h
 rw [sem, ← semA_all]; rfl
theorem sem5 {x : GFml} (h : x.Kind = 5) : sem N M x T V = x.Kids.any fun y => sem N M y T V := by
 obtain ⟨k, ar, nm, vars, args, kids⟩ := x
 simp only at h
 subst h
 rw [sem, ← semO_any]; rfl
theorem sem_cst {x : GFml} (hs : shapedP x = true) (h : cst x = true) : sem N M x T V = (x.Kind == 4) := by
 rw [cst_tr hs h, sem_tr]
 cases x.Kind == 4 <;> rfl
theorem jn_sem4 : ∀ (l o : List GFml), shsFs l = true → (match jnK 4 l o with | none => false | some r => r.all fun y => sem N M y T V) = ((o.all fun y => sem N M y T V) && l.all fun y => sem N M y T V)
 | [], o, hs => by rw [jnK]; simp
 | x :: l, o, hs => by
  rw [shsFs, bA] at hs
  have hsx := hs.1
  rw [shsF_eq, bA] at hsx
  rw [jnK, List.all_cons]
  cases hc : cst x with
  | true =>
   have h1 := sem_cst N M T V hsx.2 hc
   cases hk : x.Kind == 4 with
   | true =>
    rw [hk] at h1
    rw [cond_true, cond_true, jn_sem4 l o hs.2, h1, Bool.true_and]
   | false =>
    rw [hk] at h1
    rw [cond_true, cond_false, h1, Bool.false_and, Bool.and_false]
  | false =>
   rw [cond_false, jn_sem4 l _ hs.2, addKs_all, Bool.and_assoc]
   congr 1; congr 1
   unfold fl1
   cases hk : x.Kind == 4 with
   | true => rw [cond_true]; exact (sem4 N M T V (by simpa using hk)).symm
   | false => rw [cond_false, List.all_cons, List.all_nil, Bool.and_true]
theorem jn_sem5 : ∀ (l o : List GFml), shsFs l = true → (match jnK 5 l o with | none => true | some r => r.any fun y => sem N M y T V) = ((o.any fun y => sem N M y T V) || l.any fun y => sem N M y T V)
 | [], o, hs => by rw [jnK]; simp
 | x :: l, o, hs => by
  rw [shsFs, bA] at hs
  have hsx := hs.1
  rw [shsF_eq, bA] at hsx
  rw [jnK, List.any_cons]
  cases hc : cst x with
  | true =>
   have h1 := sem_cst N M T V hsx.2 hc
   have hx45 : x.Kind = 4 ∨ x.Kind = 5 := by unfold cst at hc; simp only [bA, Bool.or_eq_true, beq_iff_eq] at hc; exact hc.2
   cases hk : x.Kind == 5 with
   | true =>
    rw [show (x.Kind == 4) = false by simp at hk ⊢; omega] at h1
    rw [cond_true, cond_true, jn_sem5 l o hs.2, h1, Bool.false_or]
   | false =>
    rw [show (x.Kind == 4) = true by simp at hk ⊢; omega] at h1
    rw [cond_true, cond_false, h1, Bool.true_or, Bool.or_true]
  | false =>
   rw [cond_false, jn_sem5 l _ hs.2, addKs_any, Bool.or_assoc]
   congr 1; congr 1
   unfold fl1
   cases hk : x.Kind == 5 with
   | true => rw [cond_true]; exact (sem5 N M T V (by simpa using hk)).symm
   | false => rw [cond_false, List.any_cons, List.any_nil, Bool.or_false]
end
theorem good_jn {f : GFml} (hk : f.Kind = 4 ∨ f.Kind = 5) (hs : shsF f = true) (hsz : ndF f ≤ 1073741824) : Good f (jnF f) := by
 have hs2 := hs
 rw [shsF_eq, bA] at hs2
 have hsub := jnK_sub f.Kind f.Kids []
 have hS : ∀ N M T V, (match jnK f.Kind f.Kids [] with | none => !(f.Kind == 4) | some r => sem N M { f with Kids := r } T V) = sem N M f T V := by
  intro N M T V
  rcases hk with hk | hk
  ·have h1 := jn_sem4 N M T V f.Kids [] hs2.1
   rw [List.all_nil, Bool.true_and, ← sem4 N M T V hk] at h1
   rw [hk, ← h1]
   cases jnK 4 f.Kids [] with
   | none => rfl
   | some r => exact sem4 N M T V rfl
  ·have h1 := jn_sem5 N M T V f.Kids [] hs2.1
   rw [List.any_nil, Bool.false_or, ← sem5 N M T V hk] at h1
   rw [hk, ← h1]
   cases jnK 5 f.Kids [] with
   | none => rfl
   | some r => exact sem5 N M T V rfl
 unfold jnF
 cases hj : jnK f.Kind f.Kids [] with
 | none =>
  rw [hj] at hS
  exact good_tr _ fun N M T V _ => (hS N M T V).symm
 | some o =>
  rw [hj] at hS
  have hsu := hsub o hj
  rw [List.nil_append] at hsu
  have hin : ∀ x ∈ o, InN false f x := fun x hx => flA_in hk hs (hsu.subset hx)
  have hnd := Nat.le_trans (ndFs_sub hsu) (flA_nd f.Kind f.Kids)
  match o, hin, hS, hnd with
  | [x], hin, hS, _ =>
   refine (hin x (List.mem_cons_self ..)).good hs fun N M T V _ => ?_
   rw [← hS N M T V]
   show sem N M x T V = sem N M { f with Kids := [x] } T V
   rcases hk with hk | hk
   ·rw [sem4 (x := { f with Kids := [x] }) N M T V hk]; simp
   ·rw [sem5 (x := { f with Kids := [x] }) N M T V hk]; simp
  | [], hin, hS, hnd => exact good_many hk hs hin hnd hsz fun N M T V _ => hS N M T V
  | x :: y :: o, hin, hS, hnd => exact good_many hk hs hin hnd hsz fun N M T V _ => hS N M T V
def siN (f : GFml) : GFml :=
 if f.Kind = 3 then (match f.Kids with
  | x :: _ => bif cst x then trF (!(x.Kind == 4)) else bif x.Kind == 3 then (match x.Kids with | y :: _ => y | [] => f) else f
  | [] => f)
 else if f.Kind = 4 ∨ f.Kind = 5 then jnF f
 else if f.Kind = 6 ∨ f.Kind = 7 ∨ f.Kind = 11 then (match f.Kids with | x :: _ => bif cst x then x else f | [] => f)
 else if f.Kind = 1 then bif decide (f.Args.getD 0 empB = f.Args.getD 1 empB) then trF true else f
 else if f.Kind = 2 then bif decide (f.Args.getD 0 empB = f.Args.getD 1 empB) then trF false else f
 else f
mutual
def siF : GFml → GFml
 | ⟨k, ar, nm, vars, args, kids⟩ => siN ⟨k, ar, nm, vars, args, siL kids⟩
def siL : List GFml → List GFml
 | [] => []
 | x :: l => siF x :: siL l
end
theorem siL_map : ∀ l : List GFml, siL l = l.map siF
 | [] => by rw [siL]; rfl
 | x :: l => by rw [siL, siL_map l]; rfl
theorem gsR_const (c : Bool) : ∀ (k : Nat) (t : List Bool), gsR (fun _ => c) k t = c
 | 0, t => rfl
 | k + 1, t => by rw [gsR, gsR_const c k]; cases c <;> simp
theorem any_const (c : Bool) {n : Nat} (h : 1 ≤ n) : ((List.range n).any fun _ => c) = c := by
 cases c with
 | false => simp
 | true => exact List.any_eq_true.2 ⟨0, List.mem_range.2 h, rfl⟩
theorem good_siN {f : GFml} (hs : shsF f = true) (hsz : ndF f ≤ 1073741824) : Good f (siN f) := by
 have hs2 := hs
 rw [shsF_eq, bA] at hs2
 unfold siN
 split
 ·rename_i k3
  have h1 := shaped_q1 hs2.2 (.inr (.inr (.inr (.inr (.inr (.inr k3))))))
  have hsem : ∀ N M T V x, f.Kids = [x] → sem N M f T V = !sem N M x T V := by
   intro N M T V x e
   obtain ⟨k, ar, nm, vars, args, kids⟩ := f
   simp only at k3 e
   subst k3; subst e
   rw [sem, semH]; rfl
  match hkk : f.Kids, h1 with
  | [x], _ =>
   simp only
   have hsx := shsFs_mem hs2.1 (x := x) (by rw [hkk]; exact List.mem_cons_self ..)
   have hsx2 := hsx
   rw [shsF_eq, bA] at hsx2
   cases hc : cst x with
   | true =>
    rw [cond_true]
    exact good_tr _ fun N M T V _ => by rw [hsem N M T V x hkk, sem_cst N M T V hsx2.2 hc]
   | false =>
    rw [cond_false]
    cases hx3 : x.Kind == 3 with
    | false => exact Good.refl hs
    | true =>
     have hx3 : x.Kind = 3 := by simpa using hx3
     have hx1 := shaped_q1 hsx2.2 (.inr (.inr (.inr (.inr (.inr (.inr hx3))))))
     rw [cond_true]
     match hxk : x.Kids, hx1 with
     | [y], _ =>
      simp only
      have i1 := inN (.inl k3) hs2.2 (x := x) (by rw [hkk]; exact List.mem_cons_self ..)
      have i2 := inN (.inl hx3) hsx2.2 (x := y) (by rw [hxk]; exact List.mem_cons_self ..)
      have i3 := i1.trans i2
      rw [hx3, k3] at i3
      refine InN.good i3 hs fun N M T V _ => ?_
      have hy : sem N M x T V = !sem N M y T V := by
       obtain ⟨k, ar, nm, vars, args, kids⟩ := x
       simp only at hx3 hxk
       subst hx3; subst hxk
       rw [sem, semH]; rfl
      rw [hsem N M T V x hkk, hy, Bool.not_not]
 ·split
  ·rename_i hk
   exact good_jn hk hs hsz
  ·split
   ·rename_i hk
    have h1 := shaped_q1 hs2.2 (by omega)
    match hkk : f.Kids, h1 with
    | [x], _ =>
     simp only
     have hsx := shsFs_mem hs2.1 (x := x) (by rw [hkk]; exact List.mem_cons_self ..)
     rw [shsF_eq, bA] at hsx
     cases hc : cst x with
     | false => exact Good.refl hs
     | true =>
      rw [cond_true, cst_tr hsx.2 hc]
      refine good_tr _ fun N M T V hN => ?_
      have hx : ∀ T V, sem N M x T V = (x.Kind == 4) := fun T V => sem_cst N M T V hsx.2 hc
      obtain ⟨k, ar, nm, vars, args, kids⟩ := f
      simp only at hk hkk
      subst hkk
      have hp : 1 ≤ N ^ vars.length := Nat.one_le_pow _ _ hN
      rcases hk with rfl | rfl | rfl
      ·rw [sem]; simp only [semH, hx]; exact any_const _ hp
      ·rw [sem]; simp only [semH, hx]
       show (!(List.range (N ^ vars.length)).any fun _ => !(x.Kind == 4)) = _
       rw [any_const _ hp, Bool.not_not]
      ·rw [sem]; simp only [semH, hx]; exact gsR_const _ _ _
   ·split
    ·rename_i k1
     cases hd : decide (f.Args.getD 0 empB = f.Args.getD 1 empB) with
     | false => exact Good.refl hs
     | true =>
      have e := of_decide_eq_true hd
      refine good_tr _ fun N M T V _ => ?_
      obtain ⟨k, ar, nm, vars, args, kids⟩ := f
      simp only at k1 e
      subst k1
      rw [sem]
      show (val V (args.getD 0 empB) == val V (args.getD 1 empB)) = true
      rw [e]; simp
    ·split
     ·rename_i k2
      cases hd : decide (f.Args.getD 0 empB = f.Args.getD 1 empB) with
      | false => exact Good.refl hs
      | true =>
       have e := of_decide_eq_true hd
       refine good_tr _ fun N M T V _ => ?_
       obtain ⟨k, ar, nm, vars, args, kids⟩ := f
       simp only at k2 e
       subst k2
       rw [sem]
       show decide (val V (args.getD 0 empB) < val V (args.getD 1 empB)) = false
       rw [e]; simp
     ·exact Good.refl hs
mutual
theorem good_si : ∀ f : GFml, shsF f = true → ndF f ≤ 1073741824 → Good f (siF f)
 | ⟨k, ar, nm, vars, args, kids⟩, hs, hsz => by
  have hs2 := hs
  rw [shsF, bA] at hs2
  rw [ndF] at hsz
  have hL := good_siL kids hs2.1 (by omega)
  have h1 := Good.node hs2.2 hL hs2.1
  rw [siF]
  exact h1.trans (good_siN h1.shs (by have := h1.nd; have e : ndF ⟨k, ar, nm, vars, args, kids⟩ = 1 + ndFs kids := ndF_eq _; omega))
theorem good_siL : ∀ l : List GFml, shsFs l = true → ndFs l ≤ 1073741824 → GoodL l (siL l)
 | [], hs, hsz => by rw [siL]; trivial
 | x :: l, hs, hsz => by
  rw [shsFs, bA] at hs
  rw [ndFs] at hsz
  rw [siL]
  exact ⟨good_si x hs.1 (by omega), good_siL l hs.2 (by omega)⟩
end
mutual
def lgB : GFml → Bool
 | ⟨k, _, _, _, _, kids⟩ => (decide (3 ≤ k) && decide (k ≤ 7)) && lgL kids
def lgL : List GFml → Bool
 | [] => true
 | x :: l => lgB x && lgL l
end
theorem jnK_cst (k : Int) : ∀ (l : List GFml), l.all cst = true → jnK k l [] = none ∨ jnK k l [] = some []
 | [], h => .inr rfl
 | x :: l, h => by
  rw [List.all_cons, bA] at h
  rw [jnK, h.1, cond_true]
  cases x.Kind == k with
  | true => exact jnK_cst k l h.2
  | false => exact .inl rfl
theorem cst_trF (b : Bool) : cst (trF b) = true := by cases b <;> rfl
mutual
theorem lg_cst : ∀ f : GFml, shsF f = true → lgB f = true → cst (siF f) = true
 | ⟨k, ar, nm, vars, args, kids⟩, hs, hl => by
  rw [shsF, bA] at hs
  rw [lgB, bA, bA, dT, dT] at hl
  have hc := lg_cstL kids hs.1 hl.2
  have hlen : (siL kids).length = kids.length := by rw [siL_map, lM]
  rw [siF]
  unfold siN
  simp only
  split
  ·rename_i k3
   have h1 := shaped_q1 hs.2 (.inr (.inr (.inr (.inr (.inr (.inr k3))))))
   simp only at h1
   match hkk : siL kids, hlen, hc with
   | x :: l, _, hc =>
    rw [List.all_cons, bA] at hc
    simp only
    rw [hc.1, cond_true]; exact cst_trF _
   | [], hlen, _ => rw [List.length_nil] at hlen; omega
  ·split
   ·rename_i hk
    unfold jnF
    simp only
    rcases jnK_cst k _ hc with h | h
    ·rw [h]; exact cst_trF _
    ·rw [h]
     show ((([] : List GFml).length == 0) && (k == 4 || k == 5)) = true
     rcases hk with rfl | rfl <;> rfl
   ·rename_i n3 n45
    have hk : k = 6 ∨ k = 7 := by omega
    rw [if_pos (by omega)]
    have h1 := shaped_q1 hs.2 (by simp only; omega)
    simp only at h1
    match hkk : siL kids, hlen, hc with
    | x :: l, _, hc =>
     rw [List.all_cons, bA] at hc
     simp only
     rw [hc.1, cond_true]; exact hc.1
    | [], hlen, _ => rw [List.length_nil] at hlen; omega
theorem lg_cstL : ∀ l : List GFml, shsFs l = true → lgL l = true → (siL l).all cst = true
 | [], hs, hl => by rw [siL]; rfl
 | x :: l, hs, hl => by
  rw [shsFs, bA] at hs
  rw [lgL, bA] at hl
  rw [siL, List.all_cons, lg_cst x hs.1 hl.1, lg_cstL l hs.2 hl.2]; rfl
end
theorem pairG_mk : ∀ (l pre : List GSym), (∀ x ∈ l, ∀ y ∈ pre ++ l, y.Name = x.Name → y.Arity = x.Arity) → pairG pre l = true
 | [], pre, h => rfl
 | z :: l, pre, h => by
  rw [pairG, bA]
  refine ⟨List.all_eq_true.2 fun y hy => ?_, pairG_mk l (pre ++ [z]) fun x hx y hy => ?_⟩
  ·unfold clashB
   by_cases e : y.Name = z.Name
   ·rw [h z (List.mem_cons_self ..) y (List.mem_append_left _ hy) e]; simp
   ·rw [decide_eq_false e]; rfl
  ·refine h x (List.mem_cons_of_mem _ hx) y ?_
   simpa [List.append_assoc] using hy
theorem Good.valid {f g : GFml} (h : Good f g) (hv : validF f = true) : validF g = true := by
 unfold validF at hv ⊢
 simp only [bA, dT] at hv ⊢
 obtain ⟨⟨⟨⟨⟨h1, h2⟩, h3⟩, h4⟩, h5⟩, h6⟩ := hv
 have c1 := ct_dp f 61
 have c2 := ct_dp g 61
 have hgd := h.dp
 have hgn := h.nd
 have hd : dpF f ≤ 60 := by omega
 have e1 := c1.2 (by omega)
 have e2 := c2.2 (by omega)
 refine ⟨⟨⟨⟨⟨by omega, by omega⟩, h.shs⟩, h.ar _ h4⟩, h.gr h5⟩, pairG_mk _ _ fun x hx y hy e => ?_⟩
 rw [List.nil_append] at hy
 exact pairG_eq h6 (h.oc _ _ hy) (h.oc _ _ hx) e
theorem Equal_str (a b : List ByteArray) (ha : a.length ≤ 4611686018427387904) (hb0 : b.length ≤ 4611686018427387904) :
  Tri Tryz.prog 182 [strs a, strs b] [] (D (.bool (decide (a = b))) []) := by
 refine Tri.enter 26 Tryz.func182 rfl rfl rfl rfl fun Fr w0 => ?_
 by_cases hl : a.length = b.length
 ·repeat' (first | refine AW.re 0 1 ?_ | refine AW.re 1 5 ?_ | refine AW.re 2 1 ?_ | refine AW.re 3 3 ?_ | refine AW.jj (fun hb => ?_) (fun hb => ?_) | refine AW.go ?_ | fail)
  all_goals try (exfalso; simp only [lM, bne_iff_ne, ne_eq] at hb; omega)
  refine AW.prune [0, 1, 12, 13] (AW.loop (fun mz af h => ∃ (i : Nat), i ≤ a.length ∧ mz = a.length - i ∧ af = [(0, strs a), (1, strs b), (12, .int .i64 (a.map AV.str).length), (13, .int .i64 i)] ∧ h = [] ∧ decide (a = b) = decide (a.drop i = b.drop i)) a.length ⟨0, Nat.zero_le _, rfl, rfl, rfl, by simp⟩ ?_)
  rintro mz af h ⟨i, hi, rfl, rfl, rfl, he⟩
  refine AW.seq ?_
  by_cases hlt : i < a.length
  ·obtain ⟨x, hx⟩ := get_lt hlt
   obtain ⟨y, hy⟩ := get_lt (show i < b.length by omega)
   have hx' : (a.map AV.str)[((i : Nat) : Int).toNat]? = some (.str x) := map_get hx
   have hy' : (b.map AV.str)[((i : Nat) : Int).toNat]? = some (.str y) := map_get hy
   rw [drop_cons hx, drop_cons hy] at he
   repeat' (first | refine AW.re 4 1 ?_ | refine AW.re 5 2 ?_ | (refine AW.dq 6 ?_; refine AQ.es 2 ?_; refine AQ.p rfl (iX hx') ?_; refine AQ.es 3 ?_; refine AQ.p rfl (iX hy') ?_; refine AQ.es 2 ?_; refine AQ.nil ?_) | refine AW.re 7 1 ?_ | (refine AW.r 8 ?_; refine AL.d AOp.ad ?_; refine xN 1 ?_) | refine AW.jj (fun hb => ?_) (fun hb => ?_) | refine AW.go ?_ | fail)
   all_goals try (exfalso; simp only [dT, dF, lM] at *; omega)
   all_goals rw [toList_beq] at hb
   ·have h : ¬ x = y := by simpa using hb
    exact AW.retv rfl ⟨retB (by rw [he]; simp [h]), rfl⟩
   ·have h : x = y := by simpa using hb
    refine AW.again_keep (a.length - (i + 1)) [0, 1, 12, 13] (by omega) ⟨i + 1, hlt, rfl, rfl, rfl, ?_⟩
    rw [he]; simp [h]
  ·rw [List.drop_eq_nil_of_le (by omega), List.drop_eq_nil_of_le (by omega)] at he
   repeat' (first | refine AW.re 4 1 ?_ | refine AW.re 9 1 ?_ | refine AW.jj (fun hb => ?_) (fun hb => ?_) | refine AW.go ?_ | fail)
   all_goals try (exfalso; simp only [dT, dF, lM] at *; omega)
   exact AW.retv rfl ⟨retB (by rw [he]; rfl), rfl⟩
 ·have hne : decide (a = b) = false := decide_eq_false (by rintro rfl; exact hl rfl)
  repeat' (first | refine AW.re 0 1 ?_ | refine AW.re 1 5 ?_ | refine AW.re 2 1 ?_ | refine AW.re 3 3 ?_ | refine AW.jj (fun hb => ?_) (fun hb => ?_) | refine AW.go ?_ | fail)
  ·exact AW.retv rfl ⟨retB hne, rfl⟩
  ·exfalso; simp only [lM, bne_eq_false_iff_eq] at hb; omega
theorem EqualFunc_Fml (a b : List GFml) (ha : a.length ≤ 1400000000000) (hb0 : b.length ≤ 1400000000000) (hl : a.length = b.length) (fid : FuncId) (hc : ∀ x ∈ a, ∀ y ∈ b, Tri Tryz.prog fid [x.st, y.st] [] (D (.bool (eqF x y)) [])) :
  Tri Tryz.prog 183 [.sl (a.map GFml.av), .sl (b.map GFml.av), .fn fid []] [] (D (.bool (eqFs a b)) []) := by
 refine Tri.enter 32 Tryz.func183 rfl rfl rfl rfl fun Fr w0 => ?_
 repeat' (first | refine AW.re 0 1 ?_ | refine AW.re 1 5 ?_ | refine AW.re 2 1 ?_ | refine AW.re 3 3 ?_ | refine AW.jj (fun hb => ?_) (fun hb => ?_) | refine AW.go ?_ | fail)
 all_goals try (exfalso; simp only [lM, bne_iff_ne, ne_eq] at hb; omega)
 refine AW.prune [1, 2, 15, 16, 17] (AW.loop (fun mz af h => ∃ (i : Nat), i ≤ a.length ∧ mz = a.length - i ∧ af = [(1, .sl (b.map GFml.av)), (2, .fn fid []), (15, .sl (a.map GFml.av)), (16, .int .i64 (a.map GFml.av).length), (17, .int .i64 i)] ∧ h = [] ∧ eqFs a b = eqFs (a.drop i) (b.drop i)) a.length ⟨0, Nat.zero_le _, rfl, rfl, rfl, by simp⟩ ?_)
 rintro mz af h ⟨i, hi, rfl, rfl, rfl, he⟩
 refine AW.seq ?_
 by_cases hlt : i < a.length
 ·obtain ⟨x, hx⟩ := get_lt hlt
  obtain ⟨y, hy⟩ := get_lt (show i < b.length by omega)
  have hx' : (a.map GFml.av)[((i : Nat) : Int).toNat]? = some (x.st) := GFml.get hx
  have hy' : (b.map GFml.av)[((i : Nat) : Int).toNat]? = some (y.st) := GFml.get hy
  have hc1 := hc x (lG hx) y (lG hy)
  rw [drop_cons hx, drop_cons hy, eqFs] at he
  obtain ⟨k, ar, nm, vars, args, kids⟩ := x
  obtain ⟨k', ar', nm', vars', args', kids'⟩ := y
  repeat' (first | refine AW.re 4 1 ?_ | (refine xS 5 1 ?_; refine AL.d (iX hx') ?_; refine AL.d AOp.la ?_; refine AL.alloc_new (by kernel_rfl) rfl fun b8 => ?_; refine AL.es 1 ?_; refine AL.store_new rfl rfl (by kernel_rfl) rfl rfl ?_; refine AL.nil ?_) | (refine xS 6 2 ?_; refine AL.d (iX hy') ?_; refine AL.d AOp.la ?_; refine AL.alloc_store (by kernel_rfl) rfl rfl rfl rfl ?_; refine AL.nil ?_) | (refine xS 7 1 ?_; refine AL.d AOp.la ?_; refine AL.d AOp.la ?_; refine AL.d (AOp.call rfl rfl (hc1.pure _)) ?_; refine xN 1 ?_) | refine AW.re 8 1 ?_ | (refine AW.r 9 ?_; refine AL.d AOp.ad ?_; refine xN 1 ?_) | refine AW.jj (fun hb => ?_) (fun hb => ?_) | refine AW.go ?_ | fail)
  all_goals try (exfalso; simp only [dT, dF, lM] at *; omega)
  ·refine AW.ret_drop rfl (List.nil_sublist _) ⟨retB ?_, rfl⟩
   rw [he]; simp at hb; rw [hb]; rfl
  ·refine AW.drop (List.nil_sublist _) ?_
   refine AW.again_keep (a.length - (i + 1)) [1, 2, 15, 16, 17] (by omega) ⟨i + 1, hlt, rfl, rfl, rfl, ?_⟩
   rw [he]; simp at hb; rw [hb]; rfl
 ·rw [List.drop_eq_nil_of_le (by omega), List.drop_eq_nil_of_le (by omega)] at he
  repeat' (first | refine AW.re 4 1 ?_ | refine AW.re 10 1 ?_ | refine AW.jj (fun hb => ?_) (fun hb => ?_) | refine AW.go ?_ | fail)
  all_goals try (exfalso; simp only [dT, dF, lM] at *; omega)
  exact AW.retv rfl ⟨retB (by rw [he]; simp [eqFs]), rfl⟩
theorem f_Same : ∀ (N : Nat) (f g : GFml) (hN : ndF f ≤ N) (hf : f.Ok) (hg : g.Ok), Tri Tryz.prog 157 [f.st, g.st] [] (D (.bool (eqF f g)) []) := by
 intro N
 induction N using Nat.strongRecOn with
 | _ N ih =>
  intro f g hN hf hg
  have hnd := ndF_eq f
  obtain ⟨⟨_, _, _, a4, a5⟩, q6, q7⟩ := hf
  obtain ⟨⟨_, _, _, b4, b5⟩, r6, r7⟩ := hg
  have l1 := a4.1
  have l2 := a5.1
  have l3 := b4.1
  have l4 := b5.1
  have hv := Equal_str f.Vars g.Vars (by omega) (by omega)
  have ha := Equal_str f.Args g.Args (by omega) (by omega)
  have hk : Tri Tryz.prog 183 [.sl (f.Kids.map GFml.av), .sl (g.Kids.map GFml.av), .fn 157 []] [] (D (.bool (((f.Kids.length : Int) == g.Kids.length) && eqFs f.Kids g.Kids)) []) := by
   by_cases hl : f.Kids.length = g.Kids.length
   ·rw [show ((f.Kids.length : Int) == g.Kids.length) = true by simp; omega, Bool.true_and]
    exact EqualFunc_Fml f.Kids g.Kids (by omega) (by omega) hl _ fun x hx y hy => ih (ndF x) (by have := ndFs_mem hx; omega) x y (Nat.le_refl _) (q7 x hx) (r7 y hy)
   ·rw [show ((f.Kids.length : Int) == g.Kids.length) = false by simp; omega, Bool.false_and]
    generalize f.Kids = ka at *
    generalize g.Kids = kb at *
    refine Tri.enter 32 Tryz.func183 rfl rfl rfl rfl fun Fr w0 => ?_
    repeat' (first | refine AW.re 0 1 ?_ | refine AW.re 1 5 ?_ | refine AW.re 2 1 ?_ | refine AW.jj (fun hb => ?_) (fun hb => ?_) | refine AW.go ?_ | fail)
    all_goals try (exfalso; simp only [lM, bne_eq_false_iff_eq] at hb; omega)
    exact AW.retv rfl ⟨rfl, rfl⟩
  obtain ⟨k, ar, nm, vars, args, kids⟩ := f
  obtain ⟨k', ar', nm', vars', args', kids'⟩ := g
  rw [eqF, Bool.and_assoc]
  simp only at *
  generalize decide (vars = vars') = V at *
  generalize decide (args = args') = A at *
  generalize (((kids.length : Int) == kids'.length) && eqFs kids kids') = KK at *
  refine Tri.enter 45 Tryz.func157 rfl rfl rfl rfl fun Fr w0 => ?_
  repeat' (first | (refine AW.r 0 ?_; (refine AL.d (AOp.box_ro (v := .st [.int .i64 k, .int .i64 ar, .str nm, strs vars, strs args, .sl (kids.map GFml.av)]) rfl rfl) ?_) <;> (refine AL.d (AOp.box_ro (v := .st [.int .i64 k', .int .i64 ar', .str nm', strs vars', strs args', .sl (kids'.map GFml.av)]) rfl rfl) ?_) <;> refine AL.es 1 ?_ <;> refine AL.nil ?_) | (refine xS 1 6 ?_; ((refine AL.gx (fun hb => ?_) (fun hb => ?_) <;> refine AL.es 7 ?_)) <;> (first | refine AL.es 7 ?_ | (refine AL.gx (fun hb => ?_) (fun hb => ?_) <;> refine AL.es 7 ?_)) <;> (first | refine AL.es 4 ?_ | (refine AL.gx (fun hb => ?_) (fun hb => ?_) <;> refine AL.es 4 ?_)) <;> (first | (refine AL.gd ?_; (refine AL.d (AOp.call rfl rfl hv) ?_)) | refine AL.gs ?_) <;> refine AL.es 2 ?_ <;> (first | refine AL.es 4 ?_ | (refine AL.gx (fun hb => ?_) (fun hb => ?_) <;> refine AL.es 4 ?_)) <;> (first | (refine AL.gd ?_; (refine AL.d (AOp.call rfl rfl ha) ?_)) | refine AL.gs ?_) <;> refine AL.es 2 ?_ <;> (first | refine AL.es 4 ?_ | (refine AL.gx (fun hb => ?_) (fun hb => ?_) <;> refine AL.es 4 ?_)) <;> (first | (refine AL.gd ?_; (refine AL.d (AOp.call rfl rfl hk) ?_)) | refine AL.gs ?_) <;> refine AL.es 2 ?_ <;> refine AL.nil ?_) | fail)
  all_goals refine AW.retv rfl ⟨retB ?_, rfl⟩
  all_goals clear hv ha hk ih
  all_goals try simp only [lM, toList_beq, bne, Bool.not_eq_true', Bool.not_eq_false'] at *
  all_goals (simp only [*, Bool.true_and, Bool.false_and, Bool.and_false, Bool.and_true, Bool.not_false, Bool.not_true])
theorem n_constant (f : GFml) : Tri Tryz.prog 119 [f.st] [] (D (.tup [.bool (cst f && f.Kind == 4), .bool (cst f)]) []) := by
 obtain ⟨k, ar, nm, vars, args, kids⟩ := f
 unfold cst
 simp only
 by_cases h0 : kids = []
 ·subst h0
  by_cases h4 : k = 4
  ·subst h4
   refine Tri.enter 21 Tryz.func119 rfl rfl rfl rfl fun Fr w0 => ?_
   repeat' (first | (refine AW.r 0 ?_; refine AL.d (AOp.box_ro (v := .st [.int .i64 4, .int .i64 ar, .str nm, strs vars, strs args, .sl []]) rfl rfl) ?_; refine xN 2 ?_) | (refine xS 1 5 ?_; refine AL.es 4 ?_; refine xN 5 ?_) | refine AW.re 3 5 ?_ | refine AW.jf ?_ | fail)
   exact AW.retv rfl ⟨rfl, rfl⟩
  ·by_cases h5 : k = 5
   ·subst h5
    refine Tri.enter 21 Tryz.func119 rfl rfl rfl rfl fun Fr w0 => ?_
    repeat' (first | (refine AW.r 0 ?_; refine AL.d (AOp.box_ro (v := .st [.int .i64 5, .int .i64 ar, .str nm, strs vars, strs args, .sl []]) rfl rfl) ?_; refine xN 2 ?_) | (refine xS 1 5 ?_; refine AL.es 4 ?_; refine xN 5 ?_) | refine AW.re 3 5 ?_ | refine AW.jf ?_ | fail)
    exact AW.retv rfl ⟨rfl, rfl⟩
   ·have e4 : (k == 4) = false := by simpa using h4
    have e5 : (k == 5) = false := by simpa using h5
    rw [e4, e5]
    refine Tri.enter 21 Tryz.func119 rfl rfl rfl rfl fun Fr w0 => ?_
    repeat' (first | (refine AW.r 0 ?_; refine AL.d (AOp.box_ro (v := .st [.int .i64 k, .int .i64 ar, .str nm, strs vars, strs args, .sl []]) rfl rfl) ?_; refine xN 2 ?_) | (refine xS 1 5 ?_; refine AL.es 4 ?_; ((refine AL.gx (fun hb => ?_) (fun hb => ?_) <;> refine AL.es 5 ?_)) <;> refine AL.nil ?_) | refine AW.re 2 2 ?_ | refine AW.re 3 5 ?_ | refine AW.jf ?_ | refine AW.jj (fun hb => ?_) (fun hb => ?_) | fail)
    all_goals first | exact AW.retv rfl ⟨rfl, rfl⟩ | (exfalso; simp only [bne_iff_ne, ne_eq, bne_eq_false_iff_eq] at *; omega) | fail
 ·have e : (kids.length == 0) = false := by simpa using h0
  have hp : 0 < kids.length := List.length_pos_iff.2 h0
  rw [e]
  refine Tri.enter 21 Tryz.func119 rfl rfl rfl rfl fun Fr w0 => ?_
  repeat' (first | (refine AW.r 0 ?_; (refine AL.d (AOp.box_ro (v := .st [.int .i64 k, .int .i64 ar, .str nm, strs vars, strs args, .sl (kids.map GFml.av)]) rfl rfl) ?_) <;> refine AL.es 2 ?_ <;> refine AL.nil ?_) | (refine xS 1 5 ?_; ((refine AL.gx (fun hb => ?_) (fun hb => ?_) <;> refine AL.es 4 ?_)) <;> (first | refine AL.es 5 ?_ | (refine AL.gx (fun hb => ?_) (fun hb => ?_) <;> refine AL.es 5 ?_)) <;> refine AL.nil ?_) | refine AW.re 2 2 ?_ | refine AW.re 3 5 ?_ | refine AW.jt ?_ | refine AW.jf ?_ | refine AW.jj (fun hb => ?_) (fun hb => ?_) | fail)
  all_goals first | exact AW.retv rfl ⟨rfl, rfl⟩ | (exfalso; simp only [lM, dT, dF] at *; omega) | fail
theorem n_truth (b : Bool) : Tri Tryz.prog 120 [.bool b] [] (D (trF b).st []) := by
 cases b
 all_goals
  refine Tri.enter 6 Tryz.func120 rfl rfl rfl rfl fun Fr w0 => ?_
  repeat' (first | (refine AW.r 0 ?_; refine AL.alloc_z (t := 25) zF (by kernel_rfl) rfl rfl fun r => ?_; refine AL.nil ?_) | refine AW.re 1 1 ?_ | (refine AW.r 2 ?_; refine AL.d (AOp.build (pl := [(0, 1), (1, 1), (2, 1), (3, 1), (4, 1), (5, 1)]) (z := .st [.int .i64 0, .int .i64 0, .str ⟨#[]⟩, .sl [], .sl [], .sl []]) (by kernel_rfl) rfl rfl rfl) ?_ <;> refine AL.sl 0 ?_ <;> refine AL.nil ?_) | (refine AW.r 3 ?_; refine AL.d (AOp.build (pl := [(0, 1), (1, 1), (2, 1), (3, 1), (4, 1), (5, 1)]) (z := .st [.int .i64 0, .int .i64 0, .str ⟨#[]⟩, .sl [], .sl [], .sl []]) (by kernel_rfl) rfl rfl rfl) ?_ <;> refine AL.sl 0 ?_ <;> refine AL.nil ?_) | refine AW.jt ?_ | refine AW.jf ?_ | fail)
  exact AW.retc (.cell 0 rfl rfl (by kernel_rfl) .nil) (List.nil_sublist _) ⟨rfl, rfl⟩
theorem joined1 (x m : GFml) (hS : Tri Tryz.prog 157 [x.st, m.st] [] (D (.bool (eqF x m)) [])) : Tri Tryz.prog 156 [x.st, .at m.st] [] (D (.bool (eqF x m)) []) := by
 generalize eqF x m = B at *
 obtain ⟨k, ar, nm, vars, args, kids⟩ := x
 obtain ⟨k', ar', nm', vars', args', kids'⟩ := m
 refine Tri.enter 7 Tryz.func156 rfl rfl rfl rfl fun Fr w0 => ?_
 repeat' (first | (refine AW.r 0 ?_; (refine AL.d (AOp.box_ro (v := .st [.int .i64 k, .int .i64 ar, .str nm, strs vars, strs args, .sl (kids.map GFml.av)]) rfl rfl) ?_) <;> refine AL.es 1 ?_ <;> refine AL.nil ?_) | (refine xS 1 2 ?_; refine AL.d (AOp.call rfl rfl hS) ?_; refine xN 1 ?_) | fail)
 exact AW.retv rfl ⟨rfl, rfl⟩
theorem fl1_mem {k : Int} {x z : GFml} (h : z ∈ fl1 k x) : z = x ∨ z ∈ x.Kids := by
 unfold fl1 at h
 cases hk : x.Kind == k with
 | true => rw [hk] at h; exact .inr h
 | false => rw [hk] at h; exact .inl (by simpa using h)
theorem fl1_len (k : Int) (x : GFml) : (fl1 k x).length ≤ ndF x := by
 have h1 := fl1_nd k x
 have h2 := ndFs_len (fl1 k x)
 omega
theorem n_joined (f : GFml) (ho : f.Ok) (hk : f.Kind = 4 ∨ f.Kind = 5) (hnd : ndF f ≤ 1000000) : Tri Tryz.prog 121 [f.st] [] (D (jnF f).st []) := by
 obtain ⟨_, h6, h7⟩ := ho
 obtain ⟨k, ar, nm, vars, args, kids⟩ := f
 unfold jnF
 simp only at *
 rw [ndF] at hnd
 have hkl := ndFs_len kids
 obtain ⟨FV, hFV⟩ : ∃ v : AV, v = .st [.int .i64 k, .int .i64 ar, .str nm, strs vars, strs args, .sl (kids.map GFml.av)] := ⟨_, rfl⟩
 refine Tri.enter 67 Tryz.func121 rfl rfl rfl rfl fun Fr w0 => ?_
 repeat' (first | (refine AW.r 0 ?_; refine AL.box (v := .st [.int .i64 k, .int .i64 ar, .str nm, strs vars, strs args, .sl (kids.map GFml.av)]) rfl rfl rfl fun b1 => ?_; refine AL.alloc_z (t := 25) zF (by kernel_rfl) rfl rfl fun r2 => ?_; refine AL.nil ?_) | (refine AW.r 1 ?_; refine AL.d (AOp.fr 0) ?_; refine AL.d (AOp.ll 1) ?_; refine AL.es 1 ?_; refine AL.e ?_; refine AL.nil ?_) | (refine AW.r 2 ?_; refine AL.d AOp.assign_nil ?_; refine AL.nil ?_) | (refine AW.r 3 ?_; refine AL.d (AOp.fr 5) ?_; refine AL.d (AOp.ll 1) ?_; refine AL.es 1 ?_; refine AL.e ?_; refine AL.nil ?_) | refine AW.go ?_ | fail)
 refine AW.own_nil 6 ?_
 refine AW.prune [1, 2, 3, 4, 16, 17, 18] (AW.loop (fun mz af h => ∃ (i : Nat) (o : List GFml) (tt : Option Nat) (cc : Nat), i ≤ kids.length ∧ mz = kids.length - i ∧ af = [(1, .ref b1 0), (2, .ref r2 0), (3, .bool (k == 4)), (4, .slt (o.map GFml.av) tt cc), (16, .sl (kids.map GFml.av)), (17, .int .i64 (kids.map GFml.av).length), (18, .int .i64 i)] ∧ h = [.tail tt (o.map GFml.av).length cc 6, .box r2 zF, .box b1 (.st [.int .i64 k, .int .i64 ar, .str nm, strs vars, strs args, .sl (kids.map GFml.av)])] ∧ (jnK k kids [] = jnK k (kids.drop i) o ∧ o.length ≤ ndFs (kids.take i) ∧ ∀ z ∈ o, z.Ok)) kids.length ⟨0, [], none, 0, Nat.zero_le _, rfl, rfl, rfl, ⟨by simp, Nat.zero_le _, fun z hz => by cases hz⟩⟩ ?_)
 rintro mz af h ⟨i, o, tt, cc, hi, rfl, rfl, rfl, he⟩
 refine AW.seq ?_
 by_cases hlt : i < kids.length
 ·obtain ⟨he, hol, hoo⟩ := he
  obtain ⟨x, hx⟩ := get_lt hlt
  have hx' : (kids.map GFml.av)[((i : Nat) : Int).toNat]? = some (x.st) := GFml.get hx
  have hxm := lG hx
  have hxo := h7 x hxm
  have hC := n_constant x
  have hT := n_truth
  rw [drop_cons hx, jnK] at he
  have htk : kids.take (i + 1) = kids.take i ++ [x] := by rw [List.take_add_one, hx]; rfl
  have hndt : ndFs (kids.take (i + 1)) = ndFs (kids.take i) + ndF x := by rw [htk, ndFs_app, ndFs, ndFs]; omega
  have hndl : ndFs (kids.take (i + 1)) ≤ ndFs kids := ndFs_sub (List.take_sublist ..)
  repeat' (first | refine AW.re 4 1 ?_ | refine AW.jj (fun hb => ?_) (fun hb => ?_) | refine AW.go ?_ | fail)
  all_goals try (exfalso; simp only [dT, dF, lM] at *; omega)
  cases hc : cst x with
  | true =>
   rw [hc] at hC he
   rw [cond_true] at he
   have hx45 : x.Kind = 4 ∨ x.Kind = 5 := by unfold cst at hc; simp only [bA, Bool.or_eq_true, beq_iff_eq] at hc; exact hc.2
   cases hkk : x.Kind == k with
   | true =>
    rw [hkk, cond_true] at he
    have e4 : (true && x.Kind == 4) = (k == 4) := by rw [show x.Kind = k by simpa using hkk]; rfl
    rw [e4] at hC
    generalize (k == 4) = A at *
    cases A <;> repeat' (first | (refine AW.r 5 ?_; refine AL.d (iX hx') ?_; refine AL.d AOp.la ?_; refine AL.alloc_store (by kernel_rfl) rfl rfl rfl rfl ?_; refine AL.nil ?_) | (refine AW.r 6 ?_; refine AL.d AOp.la ?_; refine AL.d (AOp.call rfl rfl (hC.pure _)) ?_; refine xN 5 ?_) | refine AW.re 7 1 ?_ | (refine xS 8 2 ?_; refine AL.d AOp.bn ?_; refine AL.nil ?_) | (refine AW.r 19 ?_; refine AL.d AOp.ad ?_; refine xN 1 ?_) | refine AW.jt ?_ | refine AW.jf ?_ | fail)
    all_goals
     refine AW.again_keep (kids.length - (i + 1)) [1, 2, 3, 4, 16, 17, 18] (by omega) ⟨i + 1, o, tt, cc, hlt, rfl, rfl, rfl, ?_⟩
     exact ⟨he, by omega, hoo⟩
   | false =>
    rw [hkk, cond_false] at he
    have e4 : (true && x.Kind == 4) = !(k == 4) := by
     have : x.Kind ≠ k := by simpa using hkk
     rw [Bool.true_and]
     cases h4 : k == 4 <;> simp at h4 ⊢ <;> omega
    rw [e4] at hC
    rw [he]
    generalize (k == 4) = A at *
    cases A <;> repeat' (first | (refine AW.r 5 ?_; refine AL.d (iX hx') ?_; refine AL.d AOp.la ?_; refine AL.alloc_store (by kernel_rfl) rfl rfl rfl rfl ?_; refine AL.nil ?_) | (refine AW.r 6 ?_; refine AL.d AOp.la ?_; refine AL.d (AOp.call rfl rfl (hC.pure _)) ?_; refine xN 5 ?_) | refine AW.re 7 1 ?_ | (refine xS 8 2 ?_; refine AL.d AOp.bn ?_; refine AL.nil ?_) | (refine xS 9 1 ?_; (refine AL.d (AOp.call rfl rfl ((hT _).pure _)) ?_) <;> (refine AL.sl 1 ?_) <;> refine AL.nil ?_) | refine AW.jt ?_ | fail)
    all_goals exact AW.retc (.cell 1 rfl rfl (by kernel_rfl) .nil) (List.nil_sublist _) ⟨rfl, rfl⟩
  | false =>
   rw [hc] at hC he
   rw [cond_false] at he
   rw [Bool.false_and] at hC
   repeat' (first | (refine AW.r 5 ?_; refine AL.d (iX hx') ?_; refine AL.d AOp.la ?_; refine AL.alloc_store (by kernel_rfl) rfl rfl rfl rfl ?_; refine AL.nil ?_) | (refine AW.r 6 ?_; refine AL.d AOp.la ?_; refine AL.d (AOp.call rfl rfl (hC.pure _)) ?_; refine xN 5 ?_) | refine AW.re 7 1 ?_ | (refine AW.r 10 ?_; refine AL.d AOp.la ?_; refine AL.d (AOp.lit (e := 25) (sz := 6) (by kernel_rfl) rfl rfl rfl (P_one rfl) (by decide)) ?_; refine xN 1 ?_) | refine AW.jf ?_ | fail)
   obtain ⟨I0, hI0⟩ : ∃ j : Nat, j = i := ⟨i, rfl⟩
   subst hI0
   have heO := he
   have hltO := hlt
   refine AW.seq ?_
   refine AW.cut (fun af h => af = [(1, .ref b1 0), (2, .ref r2 0), (3, .bool (k == 4)), (4, .slt (o.map GFml.av) tt cc), (9, .sl ((fl1 k x).map GFml.av)), (16, .sl (kids.map GFml.av)), (17, .int .i64 (kids.map GFml.av).length), (18, .int .i64 I0)] ∧ h = [.tail tt (o.map GFml.av).length cc 6, .box r2 zF, .box b1 (.st [.int .i64 k, .int .i64 ar, .str nm, strs vars, strs args, .sl (kids.map GFml.av)])]) ?_ ?_
   ·repeat' (first | (refine AW.r 11 ?_; refine AL.d AOp.fa ?_; refine AL.d AOp.la ?_; refine AL.d (AOp.fr 0) ?_; refine AL.d (AOp.ll 2) ?_; refine xN 1 ?_) | (refine AW.r 12 ?_; refine AL.d AOp.fa ?_; refine AL.d AOp.la ?_; refine xN 1 ?_) | refine AW.jj (fun hb => ?_) (fun hb => ?_) | refine AW.go ?_ | fail)
    ·have e : fl1 k x = x.Kids := by unfold fl1; rw [hb]; rfl
     exact AW.meet [1, 2, 3, 4, 9, 16, 17, 18] ⟨by rw [e]; rfl, rfl⟩
    ·have e : (fl1 k x).map GFml.av = [x.st] := by unfold fl1; rw [hb]; simp [GFml.av_eq]
     exact AW.meet [1, 2, 3, 4, 9, 16, 17, 18] ⟨by rw [e]; rfl, rfl⟩
   rintro _ _ ⟨rfl, rfl⟩
   have hLl := fl1_len k x
   have hLo : ∀ z ∈ fl1 k x, z.Ok := fun z hz => by
    rcases fl1_mem hz with rfl | hz
    ·exact hxo
    ·obtain ⟨_, _, h⟩ := hxo; exact h z hz
   have hLn : ∀ z ∈ fl1 k x, ndF z ≤ 1000000 := fun z hz => by
    have h1 := ndFs_mem hz
    have h2 := fl1_nd k x
    omega
   generalize fl1 k x = L at *
   repeat' (first | refine AW.re 13 3 ?_ | refine AW.go ?_ | fail)
   refine AW.prune [1, 2, 3, 4, 16, 17, 18, 42, 43, 44] (AW.loop (fun mz af h => ∃ (i : Nat) (p : List GFml) (t2 : Option Nat) (c2 : Nat), i ≤ L.length ∧ mz = L.length - i ∧ af = [(1, .ref b1 0), (2, .ref r2 0), (3, .bool (k == 4)), (4, .slt (p.map GFml.av) t2 c2), (16, .sl (kids.map GFml.av)), (17, .int .i64 (kids.map GFml.av).length), (18, .int .i64 I0), (42, .sl (L.map GFml.av)), (43, .int .i64 (L.map GFml.av).length), (44, .int .i64 i)] ∧ h = [.tail t2 (p.map GFml.av).length c2 6, .box r2 zF, .box b1 (.st [.int .i64 k, .int .i64 ar, .str nm, strs vars, strs args, .sl (kids.map GFml.av)])] ∧ (addKs L o = addKs (L.drop i) p ∧ p.length ≤ o.length + i ∧ ∀ z ∈ p, z.Ok)) L.length ⟨0, o, tt, cc, Nat.zero_le _, rfl, rfl, rfl, ⟨by simp, by omega, hoo⟩⟩ ?_)
   rintro mz af h ⟨i, p, t2, c2, hi, rfl, rfl, rfl, he⟩
   refine AW.seq ?_
   by_cases hlt : i < L.length
   ·obtain ⟨he2, hpl, hpo⟩ := he
    obtain ⟨y, hy⟩ := get_lt hlt
    have hy' : (L.map GFml.av)[((i : Nat) : Int).toNat]? = some (y.st) := GFml.get hy
    have hym := lG hy
    have hyo := hLo y hym
    have hCF := ContainsFunc_Fml p (by omega) 156 [.at y.st] (fun g => eqF g y) fun z hz => joined1 z y (f_Same _ z y (Nat.le_refl _) (hpo z hz) hyo)
    rw [drop_cons hy, addKs] at he2
    have hak : addK p y = bif p.any (fun g => eqF g y) then p else p ++ [y] := rfl
    repeat' (first | refine AW.re 14 1 ?_ | (refine AW.r 15 ?_; refine AL.d (iX hy') ?_; refine AL.d AOp.la ?_; refine AL.alloc_store (by kernel_rfl) rfl rfl rfl rfl ?_; refine AL.nil ?_) | refine AW.jj (fun hb => ?_) (fun hb => ?_) | refine AW.go ?_ | fail)
    all_goals try (exfalso; simp only [dT, dF, lM] at *; omega)
    cases ha : p.any (fun g => eqF g y) with
    | true =>
     rw [ha] at hCF hak
     repeat' (first | (refine xS 16 2 ?_; refine AL.d (AOp.call_slt rfl rfl rfl (hCF.pure _)) ?_; refine xN 1 ?_) | (refine AW.r 18 ?_; refine AL.d AOp.ad ?_; refine xN 1 ?_) | refine AW.jf ?_ | fail)
     refine AW.again_keep (L.length - (i + 1)) [1, 2, 3, 4, 16, 17, 18, 42, 43, 44] (by omega) ⟨i + 1, p, t2, c2, hlt, rfl, rfl, rfl, ?_⟩
     exact ⟨by rw [he2, hak]; rfl, by omega, hpo⟩
    | false =>
     rw [ha] at hCF hak
     have hm : (p ++ [y]).map GFml.av = p.map GFml.av ++ [y.st] := by simp [GFml.av_eq]
     repeat' (first | (refine xS 16 2 ?_; refine AL.d (AOp.call_slt rfl rfl rfl (hCF.pure _)) ?_; refine xN 1 ?_) | (refine xS 17 1 ?_; refine AL.d AOp.la ?_; refine AL.d (AOp.lit (e := 25) (sz := 6) (by kernel_rfl) rfl rfl rfl (P_one rfl) (by decide)) ?_; refine AL.append (i := 0) (xs := p.map GFml.av) (e := 25) (sz := 6) (bytes := 104) rfl rfl rfl rfl (by kernel_rfl) (by kernel_rfl) (P_map GFml.size_av) (P_one rfl) rfl (by simp only [lM]; simp; omega) (by simp only [lM]; simp; omega) rfl fun b' c' => ?_ <;> refine AL.es 1 ?_ <;> refine AL.nil ?_) | refine AW.jt ?_ | refine AW.go ?_ | fail)
     refine AW.frame_eq rfl (show _ = [.tail b' ((p ++ [y]).map GFml.av).length c' 6, .box r2 zF, .box b1 (.st [.int .i64 k, .int .i64 ar, .str nm, strs vars, strs args, .sl (kids.map GFml.av)])] from by rw [hm]; rfl) ?_
     repeat' (first | (refine AW.r 18 ?_; refine AL.d AOp.ad ?_; refine xN 1 ?_) | fail)
     rw [← hm]
     refine AW.again_keep (L.length - (i + 1)) [1, 2, 3, 4, 16, 17, 18, 42, 43, 44] (by omega) ⟨i + 1, p ++ [y], b', c', hlt, rfl, rfl, rfl, ?_⟩
     refine ⟨by rw [he2, hak]; rfl, by rw [lA, List.length_singleton]; omega, fun z hz => ?_⟩
     rcases List.mem_append.1 hz with hz | hz
     ·exact hpo z hz
     ·rw [List.mem_singleton.1 hz]; exact hyo
   ·obtain ⟨he2, hpl, hpo⟩ := he
    rw [List.drop_eq_nil_of_le (by omega), addKs] at he2
    subst he2
    repeat' (first | refine AW.re 14 1 ?_ | refine AW.jj (fun hb => ?_) (fun hb => ?_) | refine AW.go ?_ | fail)
    all_goals try (exfalso; simp only [dT, dF, lM] at *; omega)
    repeat' (first | (refine AW.r 19 ?_; refine AL.d AOp.ad ?_; refine xN 1 ?_) | fail)
    exact AW.again_keep (kids.length - (I0 + 1)) [1, 2, 3, 4, 16, 17, 18] (by omega) ⟨I0 + 1, addKs L o, t2, c2, hltO, rfl, rfl, rfl, heO, by omega, hpo⟩
 ·obtain ⟨he, hol, hoo⟩ := he
  rw [List.drop_eq_nil_of_le (by omega), jnK] at he
  rw [he]
  repeat' (first | refine AW.re 4 1 ?_ | refine AW.jj (fun hb => ?_) (fun hb => ?_) | refine AW.go ?_ | fail)
  all_goals try (exfalso; simp only [dT, dF, lM] at *; omega)
  refine AW.as_sl 4 rfl ?_
  match o, he with
  | [x], _ =>
   have h0 : ([x].map GFml.av)[((0 : Int)).toNat]? = some x.st := by simp [GFml.av_eq]
   repeat' (first | refine AW.re 20 3 ?_ | (refine xS 21 1 ?_; refine AL.d (iX h0) ?_; refine AL.d AOp.la ?_; refine AL.sl 1 ?_; refine AL.nil ?_) | refine AW.jt ?_ | fail)
   exact AW.retc (.cell 1 rfl rfl (by kernel_rfl) .nil) (List.nil_sublist _) ⟨rfl, rfl⟩
  | [], _ =>
   repeat' (first | refine AW.re 20 3 ?_ | (refine xS 22 1 ?_; refine AL.d (AOp.fr 5) ?_; refine AL.sl 2 ?_; refine AL.nil ?_) | (refine AW.r 23 ?_; refine AL.d (AOp.lw 2) ?_; refine AL.sl 1 ?_; refine AL.nil ?_) | refine AW.jf ?_ | fail)
   exact AW.retc (.cell 1 rfl rfl (by kernel_rfl) .nil) (List.nil_sublist _) ⟨rfl, rfl⟩
  | x :: y :: o, _ =>
   repeat' (first | refine AW.re 20 3 ?_ | (refine xS 22 1 ?_; refine AL.d (AOp.fr 5) ?_; refine AL.sl 2 ?_; refine AL.nil ?_) | (refine AW.r 23 ?_; refine AL.d (AOp.lw 2) ?_; refine AL.sl 1 ?_; refine AL.nil ?_) | refine AW.jf ?_ | fail)
   all_goals try (exfalso; simp only [lM, List.length_cons, beq_iff_eq] at hb; omega)
   exact AW.retc (.cell 1 rfl rfl (by kernel_rfl) .nil) (List.nil_sublist _) ⟨rfl, rfl⟩
theorem n_simple : ∀ (N : Nat) (f : GFml), ndF f ≤ N → f.Ok → shsF f = true → ndF f ≤ 1000000 → Tri Tryz.prog 69 [f.st] [] (D (siF f).st []) := by
 intro N
 induction N using Nat.strongRecOn with
 | _ N ih =>
  intro f hN ho hsh hnd
  have hgood := good_si f hsh (by omega)
  have hn := ndF_eq f
  have hsh2 := hsh
  rw [shsF_eq, bA] at hsh2
  obtain ⟨h1, h6, h7⟩ := ho
  have hE := n_each f (.mk h1 h6 h7) 69 [] siF fun x hx => ih (ndF x) (by have := ndFs_mem hx; omega) x (Nat.le_refl _) (h7 x hx) (shsFs_mem hsh2.1 hx) (by have := ndFs_mem hx; omega)
  rw [← siL_map] at hE
  have hkb := kind_bd hsh2.2
  have hL := good_siL f.Kids hsh2.1 (by omega)
  have hKs : ∀ z ∈ siL f.Kids, z.Ok ∧ shsF z = true := fun z hz => by
   obtain ⟨x, hx, g⟩ := hL.mem z hz
   exact ⟨g.ok (h7 x hx), g.shs⟩
  have hq1 := fun h => shaped_q1 (f := f) hsh2.2 h
  have heq := fun h => shaped_eq2 (f := f) hsh2.2 h
  have hlen := hL.len
  have hlnd := hL.nd
  have hkl := ndFs_len (siL f.Kids)
  obtain ⟨k, ar, nm, vars, args, kids⟩ := f
  rw [siF]
  simp only at *
  generalize siL kids = ks at *
  have hk : k = 0 ∨ k = 1 ∨ k = 2 ∨ k = 3 ∨ k = 4 ∨ k = 5 ∨ k = 6 ∨ k = 7 ∨ k = 8 ∨ k = 9 ∨ k = 10 ∨ k = 11 := by omega
  have hT := n_truth
  have hrest : k = 0 ∨ k = 8 ∨ k = 9 ∨ k = 10 → Tri Tryz.prog 69 [(⟨k, ar, nm, vars, args, kids⟩ : GFml).st] [] (D (siN ⟨k, ar, nm, vars, args, ks⟩).st []) := by
   rintro (rfl | rfl | rfl | rfl)
   all_goals
    show Tri _ _ _ _ (D (GFml.st ⟨_, ar, nm, vars, args, ks⟩) [])
    refine Tri.enter 85 Tryz.func69 rfl rfl rfl rfl fun Fr w0 => ?_
    repeat' (first | (refine AW.r 0 ?_; refine AL.box rfl rfl rfl fun b1 => ?_; refine AL.alloc_z (t := 25) zF (by kernel_rfl) rfl rfl fun r2 => ?_; refine AL.nil ?_) | (refine AW.r 1 ?_; refine AL.d (AOp.lw 1) ?_; refine AL.d (AOp.call rfl rfl (hE.pure _)) ?_; refine AL.sl 1 ?_; refine AL.nil ?_) | (refine AW.r 2 ?_; refine AL.d (AOp.fr 0) ?_; refine AL.d (AOp.ll 1) ?_; refine AL.nil ?_) | refine AW.re 3 2 ?_ | refine AW.re 9 2 ?_ | refine AW.re 10 2 ?_ | refine AW.re 12 2 ?_ | refine AW.re 13 2 ?_ | refine AW.re 14 2 ?_ | refine AW.re 18 2 ?_ | refine AW.re 21 2 ?_ | (refine AW.r 24 ?_; refine AL.d (AOp.lw 1) ?_; refine AL.sl 0 ?_; refine AL.nil ?_) | refine AW.jf ?_ | fail)
    exact AW.retc (.cell 0 rfl rfl (by kernel_rfl) .nil) (List.nil_sublist _) ⟨rfl, rfl⟩
  have h45 : k = 4 ∨ k = 5 → Tri Tryz.prog 69 [(⟨k, ar, nm, vars, args, kids⟩ : GFml).st] [] (D (siN ⟨k, ar, nm, vars, args, ks⟩).st []) := by
   intro h
   have hJ := n_joined ⟨k, ar, nm, vars, args, ks⟩ (.mk h1 (by simp only; rw [hlen]; exact h6) fun z hz => (hKs z hz).1) h (by rw [ndF]; omega)
   rcases h with rfl | rfl
   all_goals
    change Tri _ _ _ _ (D (jnF ⟨_, ar, nm, vars, args, ks⟩).st [])
    generalize jnF _ = J at *
    refine Tri.enter 85 Tryz.func69 rfl rfl rfl rfl fun Fr w0 => ?_
    repeat' (first | (refine AW.r 0 ?_; refine AL.box rfl rfl rfl fun b1 => ?_; refine AL.alloc_z (t := 25) zF (by kernel_rfl) rfl rfl fun r2 => ?_; refine AL.nil ?_) | (refine AW.r 1 ?_; refine AL.d (AOp.lw 1) ?_; refine AL.d (AOp.call rfl rfl (hE.pure _)) ?_; refine AL.sl 1 ?_; refine AL.nil ?_) | (refine AW.r 2 ?_; refine AL.d (AOp.fr 0) ?_; refine AL.d (AOp.ll 1) ?_; refine AL.nil ?_) | refine AW.re 3 2 ?_ | refine AW.re 9 2 ?_ | refine AW.re 10 2 ?_ | (refine AW.r 11 ?_; refine AL.d (AOp.lw 1) ?_; refine AL.d (AOp.call rfl rfl (hJ.pure _)) ?_; refine AL.sl 0 ?_; refine AL.nil ?_) | refine AW.jt ?_ | refine AW.jf ?_ | fail)
    exact AW.retc (.cell 0 rfl rfl (by kernel_rfl) .nil) (List.nil_sublist _) ⟨rfl, rfl⟩
  have h1' : k = 1 → Tri Tryz.prog 69 [(⟨k, ar, nm, vars, args, kids⟩ : GFml).st] [] (D (siN ⟨k, ar, nm, vars, args, ks⟩).st []) := by
   intro h
   have ha := heq (by omega)
   subst h
   obtain ⟨u, v, rfl⟩ : ∃ u v, args = [u, v] := by
    match args, ha with
    | [u, v], _ => exact ⟨u, v, rfl⟩
   have i0 : ([u, v].map AV.str)[((0 : Int)).toNat]? = some (.str u) := rfl
   have i1 : ([u, v].map AV.str)[((1 : Int)).toNat]? = some (.str v) := rfl
   show Tri _ _ _ _ (D (GFml.st (bif decide (u = v) then trF true else ⟨_, ar, nm, vars, [u, v], ks⟩)) [])
   have hTb := hT true
   refine Tri.enter 85 Tryz.func69 rfl rfl rfl rfl fun Fr w0 => ?_
   repeat' (first | (refine AW.r 0 ?_; refine AL.box rfl rfl rfl fun b1 => ?_; refine AL.alloc_z (t := 25) zF (by kernel_rfl) rfl rfl fun r2 => ?_; refine AL.nil ?_) | (refine AW.r 1 ?_; refine AL.d (AOp.lw 1) ?_; refine AL.d (AOp.call rfl rfl (hE.pure _)) ?_; refine AL.sl 1 ?_; refine AL.nil ?_) | (refine AW.r 2 ?_; refine AL.d (AOp.fr 0) ?_; refine AL.d (AOp.ll 1) ?_; refine AL.nil ?_) | refine AW.re 3 2 ?_ | refine AW.re 9 2 ?_ | refine AW.re 10 2 ?_ | refine AW.re 12 2 ?_ | refine AW.re 13 2 ?_ | refine AW.re 14 2 ?_ | refine AW.re 18 2 ?_ | (refine AW.dq 19 ?_; refine AQ.p rfl (AOp.fr 4) ?_; refine AQ.p rfl (AOp.ll 1) ?_; refine AQ.p rfl (iX i0) ?_; refine AQ.p rfl AOp.la ?_; refine AQ.p rfl (AOp.fr 4) ?_; refine AQ.p rfl (AOp.ll 1) ?_; refine AQ.p rfl (iX i1) ?_; refine AQ.p rfl AOp.la ?_; refine AQ.es 1 ?_; refine AQ.nil ?_) | (refine AW.r 20 ?_; refine AL.d (AOp.call rfl rfl (hTb.pure _)) ?_; refine AL.sl 0 ?_; refine AL.nil ?_) | (refine AW.r 24 ?_; refine AL.d (AOp.lw 1) ?_; refine AL.sl 0 ?_; refine AL.nil ?_) | refine AW.jt ?_ | refine AW.jf ?_ | refine AW.jj (fun hb => ?_) (fun hb => ?_) | fail)
   all_goals rw [toList_beq] at hb; rw [hb]
   all_goals exact AW.retc (.cell 0 rfl rfl (by kernel_rfl) .nil) (List.nil_sublist _) ⟨rfl, rfl⟩
  have h2' : k = 2 → Tri Tryz.prog 69 [(⟨k, ar, nm, vars, args, kids⟩ : GFml).st] [] (D (siN ⟨k, ar, nm, vars, args, ks⟩).st []) := by
   intro h
   have ha := heq (by omega)
   subst h
   obtain ⟨u, v, rfl⟩ : ∃ u v, args = [u, v] := by
    match args, ha with
    | [u, v], _ => exact ⟨u, v, rfl⟩
   have i0 : ([u, v].map AV.str)[((0 : Int)).toNat]? = some (.str u) := rfl
   have i1 : ([u, v].map AV.str)[((1 : Int)).toNat]? = some (.str v) := rfl
   show Tri _ _ _ _ (D (GFml.st (bif decide (u = v) then trF false else ⟨_, ar, nm, vars, [u, v], ks⟩)) [])
   have hTb := hT false
   refine Tri.enter 85 Tryz.func69 rfl rfl rfl rfl fun Fr w0 => ?_
   repeat' (first | (refine AW.r 0 ?_; refine AL.box rfl rfl rfl fun b1 => ?_; refine AL.alloc_z (t := 25) zF (by kernel_rfl) rfl rfl fun r2 => ?_; refine AL.nil ?_) | (refine AW.r 1 ?_; refine AL.d (AOp.lw 1) ?_; refine AL.d (AOp.call rfl rfl (hE.pure _)) ?_; refine AL.sl 1 ?_; refine AL.nil ?_) | (refine AW.r 2 ?_; refine AL.d (AOp.fr 0) ?_; refine AL.d (AOp.ll 1) ?_; refine AL.nil ?_) | refine AW.re 3 2 ?_ | refine AW.re 9 2 ?_ | refine AW.re 10 2 ?_ | refine AW.re 12 2 ?_ | refine AW.re 13 2 ?_ | refine AW.re 14 2 ?_ | refine AW.re 18 2 ?_ | refine AW.re 21 2 ?_ | (refine AW.dq 22 ?_; refine AQ.p rfl (AOp.fr 4) ?_; refine AQ.p rfl (AOp.ll 1) ?_; refine AQ.p rfl (iX i0) ?_; refine AQ.p rfl AOp.la ?_; refine AQ.p rfl (AOp.fr 4) ?_; refine AQ.p rfl (AOp.ll 1) ?_; refine AQ.p rfl (iX i1) ?_; refine AQ.p rfl AOp.la ?_; refine AQ.es 1 ?_; refine AQ.nil ?_) | (refine AW.r 23 ?_; refine AL.d (AOp.call rfl rfl (hTb.pure _)) ?_; refine AL.sl 0 ?_; refine AL.nil ?_) | (refine AW.r 24 ?_; refine AL.d (AOp.lw 1) ?_; refine AL.sl 0 ?_; refine AL.nil ?_) | refine AW.jt ?_ | refine AW.jf ?_ | refine AW.jj (fun hb => ?_) (fun hb => ?_) | fail)
   all_goals rw [toList_beq] at hb; rw [hb]
   all_goals exact AW.retc (.cell 0 rfl rfl (by kernel_rfl) .nil) (List.nil_sublist _) ⟨rfl, rfl⟩
  have hq : k = 6 ∨ k = 7 ∨ k = 11 → Tri Tryz.prog 69 [(⟨k, ar, nm, vars, args, kids⟩ : GFml).st] [] (D (siN ⟨k, ar, nm, vars, args, ks⟩).st []) := by
   intro h
   have h1 := hq1 (by omega)
   obtain ⟨x, rfl⟩ : ∃ x, ks = [x] := by
    match ks, hlen.trans h1 with
    | [x], _ => exact ⟨x, rfl⟩
   have i0 : ([x].map GFml.av)[((0 : Int)).toNat]? = some x.st := by simp [GFml.av_eq]
   have hC := n_constant x
   rcases h with rfl | rfl | rfl
   all_goals
    change Tri _ _ _ _ (D (GFml.st (bif cst x then x else ⟨_, ar, nm, vars, args, [x]⟩)) [])
    cases hc : cst x
    all_goals
     rw [hc] at hC
     refine Tri.enter 85 Tryz.func69 rfl rfl rfl rfl fun Fr w0 => ?_
     repeat' (first | (refine AW.r 0 ?_; refine AL.box rfl rfl rfl fun b1 => ?_; refine AL.alloc_z (t := 25) zF (by kernel_rfl) rfl rfl fun r2 => ?_; refine AL.nil ?_) | (refine AW.r 1 ?_; refine AL.d (AOp.lw 1) ?_; refine AL.d (AOp.call rfl rfl (hE.pure _)) ?_; refine AL.sl 1 ?_; refine AL.nil ?_) | (refine AW.r 2 ?_; refine AL.d (AOp.fr 0) ?_; refine AL.d (AOp.ll 1) ?_; refine AL.nil ?_) | refine AW.re 3 2 ?_ | refine AW.re 9 2 ?_ | refine AW.re 10 2 ?_ | refine AW.re 12 2 ?_ | refine AW.re 13 2 ?_ | refine AW.re 14 2 ?_ | (refine AW.r 15 ?_; refine AL.d (AOp.fr 5) ?_; refine AL.d (AOp.ll 1) ?_; refine AL.d (iX i0) ?_; refine AL.d AOp.la ?_; refine AL.d (AOp.call rfl rfl (hC.pure _)) ?_; refine xN 5 ?_) | refine AW.re 16 1 ?_ | (refine AW.r 17 ?_; refine AL.d (AOp.fr 5) ?_; refine AL.d (AOp.ll 1) ?_; refine AL.d (iX i0) ?_; refine AL.d AOp.la ?_; refine AL.sl 0 ?_; refine AL.nil ?_) | (refine AW.r 24 ?_; refine AL.d (AOp.lw 1) ?_; refine AL.sl 0 ?_; refine AL.nil ?_) | refine AW.jt ?_ | refine AW.jf ?_ | fail)
     exact AW.retc (.cell 0 rfl rfl (by kernel_rfl) .nil) (List.nil_sublist _) ⟨rfl, rfl⟩
  have h3 : k = 3 → Tri Tryz.prog 69 [(⟨k, ar, nm, vars, args, kids⟩ : GFml).st] [] (D (siN ⟨k, ar, nm, vars, args, ks⟩).st []) := by
   intro h
   have h1 := hq1 (by omega)
   obtain ⟨x, rfl⟩ : ∃ x, ks = [x] := by
    match ks, hlen.trans h1 with
    | [x], _ => exact ⟨x, rfl⟩
   have i0 : ([x].map GFml.av)[((0 : Int)).toNat]? = some x.st := by simp [GFml.av_eq]
   have hC := n_constant x
   have hxs := (hKs x (List.mem_cons_self ..)).2
   rw [shsF_eq, bA] at hxs
   subst h
   show Tri _ _ _ _ (D (GFml.st (bif cst x then trF (!(x.Kind == 4)) else bif x.Kind == 3 then (match x.Kids with | y :: _ => y | [] => ⟨_, ar, nm, vars, args, [x]⟩) else ⟨_, ar, nm, vars, args, [x]⟩)) [])
   cases hc : cst x with
   | true =>
    rw [hc] at hC
    cases h4 : x.Kind == 4 <;> rw [h4] at hC
    ·have hTb := hT true
     refine Tri.enter 85 Tryz.func69 rfl rfl rfl rfl fun Fr w0 => ?_
     repeat' (first | (refine AW.r 0 ?_; refine AL.box rfl rfl rfl fun b1 => ?_; refine AL.alloc_z (t := 25) zF (by kernel_rfl) rfl rfl fun r2 => ?_; refine AL.nil ?_) | (refine AW.r 1 ?_; refine AL.d (AOp.lw 1) ?_; refine AL.d (AOp.call rfl rfl (hE.pure _)) ?_; refine AL.sl 1 ?_; refine AL.nil ?_) | (refine AW.r 2 ?_; refine AL.d (AOp.fr 0) ?_; refine AL.d (AOp.ll 1) ?_; refine AL.nil ?_) | refine AW.re 3 2 ?_ | (refine AW.r 4 ?_; refine AL.d (AOp.fr 5) ?_; refine AL.d (AOp.ll 1) ?_; refine AL.d (iX i0) ?_; refine AL.d AOp.la ?_; refine AL.d (AOp.call rfl rfl (hC.pure _)) ?_; refine xN 5 ?_) | refine AW.re 5 1 ?_ | (refine xS 6 2 ?_; refine AL.d (AOp.call rfl rfl (hTb.pure _)) ?_; refine AL.sl 0 ?_; refine AL.nil ?_) | refine AW.jt ?_ | fail)
     exact AW.retc (.cell 0 rfl rfl (by kernel_rfl) .nil) (List.nil_sublist _) ⟨rfl, rfl⟩
    ·have hTb := hT false
     refine Tri.enter 85 Tryz.func69 rfl rfl rfl rfl fun Fr w0 => ?_
     repeat' (first | (refine AW.r 0 ?_; refine AL.box rfl rfl rfl fun b1 => ?_; refine AL.alloc_z (t := 25) zF (by kernel_rfl) rfl rfl fun r2 => ?_; refine AL.nil ?_) | (refine AW.r 1 ?_; refine AL.d (AOp.lw 1) ?_; refine AL.d (AOp.call rfl rfl (hE.pure _)) ?_; refine AL.sl 1 ?_; refine AL.nil ?_) | (refine AW.r 2 ?_; refine AL.d (AOp.fr 0) ?_; refine AL.d (AOp.ll 1) ?_; refine AL.nil ?_) | refine AW.re 3 2 ?_ | (refine AW.r 4 ?_; refine AL.d (AOp.fr 5) ?_; refine AL.d (AOp.ll 1) ?_; refine AL.d (iX i0) ?_; refine AL.d AOp.la ?_; refine AL.d (AOp.call rfl rfl (hC.pure _)) ?_; refine xN 5 ?_) | refine AW.re 5 1 ?_ | (refine xS 6 2 ?_; refine AL.d (AOp.call rfl rfl (hTb.pure _)) ?_; refine AL.sl 0 ?_; refine AL.nil ?_) | refine AW.jt ?_ | fail)
     exact AW.retc (.cell 0 rfl rfl (by kernel_rfl) .nil) (List.nil_sublist _) ⟨rfl, rfl⟩
   | false =>
    rw [hc] at hC
    cases hx3 : x.Kind == 3 with
    | true =>
     have hy := shaped_q1 hxs.2 (.inr (.inr (.inr (.inr (.inr (.inr (by simpa using hx3)))))))
     obtain ⟨k', ar', nm', vars', args', kids'⟩ := x
     obtain rfl : k' = 3 := by simpa using hx3
     simp only at hy
     obtain ⟨y, rfl⟩ : ∃ y, kids' = [y] := by
      match kids', hy with
      | [y], _ => exact ⟨y, rfl⟩
     have i1 : ([y].map GFml.av)[((0 : Int)).toNat]? = some y.st := by simp [GFml.av_eq]
     refine Tri.enter 85 Tryz.func69 rfl rfl rfl rfl fun Fr w0 => ?_
     repeat' (first | (refine AW.r 0 ?_; refine AL.box rfl rfl rfl fun b1 => ?_; refine AL.alloc_z (t := 25) zF (by kernel_rfl) rfl rfl fun r2 => ?_; refine AL.nil ?_) | (refine AW.r 1 ?_; refine AL.d (AOp.lw 1) ?_; refine AL.d (AOp.call rfl rfl (hE.pure _)) ?_; refine AL.sl 1 ?_; refine AL.nil ?_) | (refine AW.r 2 ?_; refine AL.d (AOp.fr 0) ?_; refine AL.d (AOp.ll 1) ?_; refine AL.nil ?_) | refine AW.re 3 2 ?_ | (refine AW.r 4 ?_; refine AL.d (AOp.fr 5) ?_; refine AL.d (AOp.ll 1) ?_; refine AL.d (iX i0) ?_; refine AL.d AOp.la ?_; refine AL.d (AOp.call rfl rfl (hC.pure _)) ?_; refine xN 5 ?_) | refine AW.re 5 1 ?_ | (refine AW.r 7 ?_; refine AL.d (AOp.fr 5) ?_; refine AL.d (AOp.ll 1) ?_; refine AL.d (iX i0) ?_; refine AL.d AOp.fa ?_; refine AL.d AOp.la ?_; refine xN 1 ?_) | (refine AW.r 8 ?_; refine AL.d (AOp.fr 5) ?_; refine AL.d (AOp.ll 1) ?_; refine AL.d (iX i0) ?_; refine AL.d AOp.fa ?_; refine AL.d AOp.la ?_; refine AL.d (iX i1) ?_; refine AL.d AOp.la ?_; refine AL.sl 0 ?_; refine AL.nil ?_) | refine AW.jt ?_ | refine AW.jf ?_ | fail)
     exact AW.retc (.cell 0 rfl rfl (by kernel_rfl) .nil) (List.nil_sublist _) ⟨rfl, rfl⟩
    | false =>
     refine Tri.enter 85 Tryz.func69 rfl rfl rfl rfl fun Fr w0 => ?_
     repeat' (first | (refine AW.r 0 ?_; refine AL.box rfl rfl rfl fun b1 => ?_; refine AL.alloc_z (t := 25) zF (by kernel_rfl) rfl rfl fun r2 => ?_; refine AL.nil ?_) | (refine AW.r 1 ?_; refine AL.d (AOp.lw 1) ?_; refine AL.d (AOp.call rfl rfl (hE.pure _)) ?_; refine AL.sl 1 ?_; refine AL.nil ?_) | (refine AW.r 2 ?_; refine AL.d (AOp.fr 0) ?_; refine AL.d (AOp.ll 1) ?_; refine AL.nil ?_) | refine AW.re 3 2 ?_ | (refine AW.r 4 ?_; refine AL.d (AOp.fr 5) ?_; refine AL.d (AOp.ll 1) ?_; refine AL.d (iX i0) ?_; refine AL.d AOp.la ?_; refine AL.d (AOp.call rfl rfl (hC.pure _)) ?_; refine xN 5 ?_) | refine AW.re 5 1 ?_ | (refine AW.r 7 ?_; refine AL.d (AOp.fr 5) ?_; refine AL.d (AOp.ll 1) ?_; refine AL.d (iX i0) ?_; refine AL.d AOp.fa ?_; refine AL.d AOp.la ?_; refine xN 1 ?_) | (refine AW.r 24 ?_; refine AL.d (AOp.lw 1) ?_; refine AL.sl 0 ?_; refine AL.nil ?_) | refine AW.jt ?_ | refine AW.jf ?_ | refine AW.jj (fun hb => ?_) (fun hb => ?_) | refine AW.go ?_ | fail)
     all_goals try (exfalso; rw [hx3] at hb; exact Bool.noConfusion hb)
     exact AW.retc (.cell 0 rfl rfl (by kernel_rfl) .nil) (List.nil_sublist _) ⟨rfl, rfl⟩
  rcases hk with e | e | e | e | e | e | e | e | e | e | e | e
  ·exact hrest (by omega)
  ·exact h1' e
  ·exact h2' e
  ·exact h3 e
  ·exact h45 (by omega)
  ·exact h45 (by omega)
  ·exact hq (by omega)
  ·exact hq (by omega)
  ·exact hrest (by omega)
  ·exact hrest (by omega)
  ·exact hrest (by omega)
  ·exact hq (by omega)
theorem qryL_len2 (N M : Nat) (f : GFml) (T : TT) (vars : List ByteArray) (m : Nat) : ∀ t ∈ qryL N M f T vars m, t.length = vars.length := by
 intro t ht
 unfold qryL at ht
 have := (List.mem_filter.1 ht).1
 unfold tupL at this
 obtain ⟨i, _, rfl⟩ := List.mem_map.1 this
 exact tup_len _ _ _
theorem qryL_eq {N M : Nat} {f g : GFml} {T : TT} {vars : List ByteArray} (h : ∀ t : List Int, sem N M g T (vars.zip t) = sem N M f T (vars.zip t)) (m : Nat) : qryL N M g T vars m = qryL N M f T vars m := by
 unfold qryL
 rw [show (fun t => sem N M g T (vars.zip t)) = fun t => sem N M f T (vars.zip t) from funext h]
theorem fewer_sub (l m : List GSym) (hl : l.length ≤ 100000) (hm : m.length ≤ 100000) (hs : ∀ x ∈ l, x ∈ m) : Tri Tryz.prog 37 [.sl (l.map GSym.av), .sl (m.map GSym.av)] [] (D (.bool true) []) := by
 refine Tri.enter 34 Tryz.func37 rfl rfl rfl rfl fun Fr w0 => ?_
 repeat' (first | refine AW.re 0 1 ?_ | refine AW.re 1 1 ?_ | refine AW.go ?_ | fail)
 refine AW.prune [0, 1, 5] (AW.loop (fun mz af h => ∃ (i : Nat), i ≤ l.length ∧ mz = l.length - i ∧ af = [(0, .sl (l.map GSym.av)), (1, .sl (m.map GSym.av)), (5, .int .i64 i)] ∧ h = [] ∧ True) l.length ⟨0, Nat.zero_le _, rfl, rfl, rfl, trivial⟩ ?_)
 rintro mz af h ⟨i, hi, rfl, rfl, rfl, he⟩
 refine AW.seq ?_
 by_cases hlt : i < l.length
 ·obtain ⟨I, hI⟩ : ∃ j : Nat, j = i := ⟨i, rfl⟩
  subst hI
  have hlt0 := hlt
  obtain ⟨x, hx⟩ := get_lt hlt
  have hx' : (l.map GSym.av)[((I : Nat) : Int).toNat]? = some (.st [.str x.Name, .int .i64 x.Arity]) := map_get hx
  obtain ⟨j, hj⟩ := List.getElem?_of_mem (hs x (lG hx))
  have hjl := (List.getElem?_eq_some_iff.1 hj).1
  repeat' (first | refine AW.re 2 4 ?_ | refine AW.re 4 1 ?_ | refine AW.re 5 1 ?_ | refine AW.jj (fun hb => ?_) (fun hb => ?_) | refine AW.go ?_ | fail)
  all_goals try (exfalso; simp only [dT, dF, lM] at *; omega)
  refine AW.prune [0, 1, 5, 6, 7] (AW.loop (fun mz af h => ∃ (i : Nat) (b : Bool), i ≤ m.length ∧ mz = m.length - i ∧ af = [(0, .sl (l.map GSym.av)), (1, .sl (m.map GSym.av)), (5, .int .i64 I), (6, .bool b), (7, .int .i64 i)] ∧ h = [] ∧ (j < i → b = true)) m.length ⟨0, false, Nat.zero_le _, rfl, rfl, rfl, fun h => by omega⟩ ?_)
  rintro mz af h ⟨i, b, hi, rfl, rfl, rfl, he⟩
  refine AW.seq ?_
  by_cases hlt : i < m.length
  ·obtain ⟨y, hy⟩ := get_lt hlt
   have hy' : (m.map GSym.av)[((i : Nat) : Int).toNat]? = some (.st [.str y.Name, .int .i64 y.Arity]) := map_get hy
   cases b with
   | true =>
    repeat' (first | refine AW.re 6 4 ?_ | (refine AW.dq 8 ?_; refine AQ.es 2 ?_; refine AQ.es 2 ?_; refine AQ.k ?_; refine AQ.es 3 ?_; refine AQ.k ?_; refine AQ.es 1 ?_; refine AQ.k ?_; refine AQ.es 2 ?_; refine AQ.nil ?_) | (refine xS 7 1 ?_; refine AL.d AOp.ad ?_; refine xN 1 ?_) | refine AW.jj (fun hb => ?_) (fun hb => ?_) | refine AW.go ?_ | fail)
    all_goals try (exfalso; simp only [dT, dF, lM] at *; omega)
    exact AW.again_keep (m.length - (i + 1)) [0, 1, 5, 6, 7] (by omega) ⟨i + 1, true, hlt, rfl, rfl, rfl, fun _ => rfl⟩
   | false =>
    repeat' (first | refine AW.re 6 4 ?_ | (refine AW.dq 8 ?_; refine AQ.es 2 ?_; refine AQ.es 2 ?_; refine AQ.gp rfl (iX hx') ?_; refine AQ.es 3 ?_; refine AQ.gp rfl (iX hy') ?_; refine AQ.es 1 ?_; refine AQ.gp rfl (AOp.sym_eq (by kernel_rfl) rfl rfl) ?_; refine AQ.es 2 ?_; refine AQ.nil ?_) | (refine xS 7 1 ?_; refine AL.d AOp.ad ?_; refine xN 1 ?_) | refine AW.jj (fun hb => ?_) (fun hb => ?_) | refine AW.go ?_ | fail)
    all_goals try (exfalso; simp only [dT, dF, lM] at *; omega)
    refine AW.again_keep (m.length - (i + 1)) [0, 1, 5, 6, 7] (by omega) ⟨i + 1, (x.Name.toList == y.Name.toList && x.Arity == y.Arity), hlt, rfl, rfl, rfl, fun h => ?_⟩
    by_cases hi2 : j < i
    ·have := he hi2; cases this
    ·obtain rfl : j = i := by omega
     rw [hj] at hy
     obtain rfl := Option.some.inj hy
     simp
  ·obtain rfl : b = true := he (by omega)
   repeat' (first | refine AW.re 6 4 ?_ | refine AW.re 9 2 ?_ | (refine xS 3 1 ?_; refine AL.d AOp.ad ?_; refine xN 1 ?_) | refine AW.jf ?_ | refine AW.jj (fun hb => ?_) (fun hb => ?_) | refine AW.go ?_ | fail)
   all_goals try (exfalso; simp only [dT, dF, lM] at *; omega)
   exact AW.again_keep (l.length - (I + 1)) [0, 1, 5] (by omega) ⟨I + 1, hlt0, rfl, rfl, rfl, trivial⟩
 ·repeat' (first | refine AW.re 2 4 ?_ | refine AW.re 11 1 ?_ | refine AW.jj (fun hb => ?_) (fun hb => ?_) | refine AW.go ?_ | fail)
  all_goals try (exfalso; simp only [dT, dF, lM] at *; omega)
  exact AW.retv rfl ⟨rfl, rfl⟩
theorem symL_le {f g : GFml} (hv : validF f = true) (hoc : ∀ y, y ∈ ocF g [] [] → y ∈ ocF f [] []) : ∀ y ∈ symL (ocF g [] []), y ∈ symL (ocF f [] []) := by
 intro y hy
 unfold validF at hv
 simp only [bA] at hv
 have h1 := hoc y (symL_sub hy)
 obtain ⟨z, hz, e⟩ := symL_name h1
 have ha := pairG_eq hv.2 (symL_sub hz) h1 e
 obtain ⟨n1, a1⟩ := y
 obtain ⟨n2, a2⟩ := z
 simp only at e ha
 subst e; subst ha
 exact hz
theorem less_of (f g : GFml) (hf : f.Ok) (hg : g.Ok) (hv : validF f = true) (hw : validF g = true) (n1 : ndF f ≤ 1500) (n2 : ndF g ≤ 1500) (hfr : ∀ x ∈ frF g, x ∈ frF f) (hoc : ∀ y, y ∈ ocF g [] [] → y ∈ ocF f [] []) : Tri Tryz.prog 55 [f.st, g.st] [] (D (.bool true) []) := by
 have hV := ref_Valid g hg (by omega)
 rw [hw] at hV
 have hs1 := validF_shs hv
 have hs2 := validF_shs hw
 have a1 := frF_len f
 have a2 := agF_len f hs1
 have a3 := frF_len g
 have a4 := agF_len g hs2
 have hF := ref_Free _ f (Nat.le_refl _) hf (by omega)
 have hG := ref_Free _ g (Nat.le_refl _) hg (by omega)
 have hS := ref_Symbols f hf (by omega)
 have hT := ref_Symbols g hg (by omega)
 have sl : ∀ h : GFml, ndF h ≤ 1500 → (symL (ocF h [] [])).length ≤ 100000 := fun h n => by have h1 := symL_len (ocF h [] []); have h2 := ocF_len h [] []; simp at h2; omega
 have hfe := fewer_sub (symL (ocF g [] [])) (symL (ocF f [] [])) (sl g n2) (sl f n1) (symL_le hv hoc)
 have hA := fun v => Among_has (frF f) (by omega) v
 have b1 : (frF f).length ≤ 1000000 := by omega
 have b2 : (frF g).length ≤ 1000000 := by omega
 clear a1 a2 a3 a4 hoc sl
 generalize symL (ocF f [] []) = SS at *
 generalize symL (ocF g [] []) = SG at *
 generalize frF f = FF at *
 generalize frF g = GG at *
 refine Tri.enter 33 Tryz.func55 rfl rfl rfl rfl fun Fr w0 => ?_
 repeat' (first | (refine AW.r 0 ?_; refine AL.d (AOp.box_ro rfl rfl) ?_; refine AL.d (AOp.box_ro rfl rfl) ?_; refine xN 1 ?_) | (refine xS 1 1 ?_; refine AL.d (AOp.call rfl rfl hV) ?_; refine xN 1 ?_) | (refine AW.dq 3 ?_; refine AQ.es 1 ?_; refine AQ.p rfl (AOp.call rfl rfl hF) ?_; refine AQ.es 1 ?_; refine AQ.p rfl (AOp.call rfl rfl hG) ?_; refine AQ.es 2 ?_; refine AQ.nil ?_) | refine AW.jf ?_ | refine AW.go ?_ | fail)
 all_goals try (exfalso; simp only [dT, dF, lM] at *; omega)
 repeat' (first | refine AW.re 4 1 ?_ | refine AW.go ?_ | fail)
 refine AW.prune [2, 3, 5, 6, 7] (AW.loop (fun mz af h => ∃ (i : Nat), i ≤ GG.length ∧ mz = GG.length - i ∧ af = [(2, .at f.st), (3, .at g.st), (5, strs FF), (6, strs GG), (7, .int .i64 i)] ∧ h = [] ∧ True) GG.length ⟨0, Nat.zero_le _, rfl, rfl, rfl, trivial⟩ ?_)
 rintro mz af h ⟨i, hi, rfl, rfl, rfl, he⟩
 refine AW.seq ?_
 by_cases hlt : i < GG.length
 ·obtain ⟨x, hx⟩ := get_lt hlt
  have hx' : (GG.map AV.str)[((i : Nat) : Int).toNat]? = some (.str x) := map_get hx
  have hAx := hA x
  rw [has_mem.2 (hfr x (lG hx))] at hAx
  repeat' (first | refine AW.re 5 4 ?_ | (refine xS 7 3 ?_; refine AL.d (iX hx') ?_; refine AL.es 1 ?_; refine AL.d (AOp.call rfl rfl hAx) ?_; refine xN 1 ?_) | (refine xS 6 1 ?_; refine AL.d AOp.ad ?_; refine xN 1 ?_) | refine AW.jf ?_ | refine AW.jj (fun hb => ?_) (fun hb => ?_) | refine AW.go ?_ | fail)
  all_goals try (exfalso; simp only [dT, dF, lM] at *; omega)
  refine AW.again_keep (GG.length - (i + 1)) [2, 3, 5, 6, 7] (by omega) ⟨i + 1, hlt, rfl, rfl, rfl, ?_⟩
  trivial
 ·repeat' (first | refine AW.re 5 4 ?_ | (refine AW.dq 9 ?_; refine AQ.es 1 ?_; refine AQ.p rfl (AOp.call rfl rfl hT) ?_; refine AQ.es 1 ?_; refine AQ.p rfl (AOp.call rfl rfl hS) ?_; refine AQ.p rfl (AOp.call rfl rfl hfe) ?_; refine AQ.es 1 ?_; refine AQ.nil ?_) | refine AW.jj (fun hb => ?_) (fun hb => ?_) | refine AW.go ?_ | fail)
  all_goals try (exfalso; simp only [dT, dF, lM] at *; omega)
  exact AW.retv rfl ⟨rfl, rfl⟩
theorem means_of (M : Nat) (hM : 5001 < M) (f g : GFml) (s : GStr) (hf : f.Ok) (hg : g.Ok) (hs : s.Ok) (hv : validF f = true) (hw : validF g = true) (n1 : ndF f ≤ 1500) (n2 : ndF g ≤ 1500) (hfr : ∀ x ∈ frF g, x ∈ frF f) (hoc : ∀ y, y ∈ ocF g [] [] → y ∈ ocF f [] [])
  (hsem : ∀ N (t : List Int), 1 ≤ N → sem N M g (strT N s) ((frF f).zip t) = sem N M f (strT N s) ((frF f).zip t)) : Tri Tryz.prog 15 [f.st, g.st, s.av] [] (D (.bool true) []) := by
 have hL := less_of f g hf hg hv hw n1 n2 hfr hoc
 have hF := law_free0 f hf (validF_shs hv) (by omega)
 have hEf := fun h => law_evaluated M hM f s (frF f) hf hs hv n1 h
 have hEg := fun h => law_evaluated M hM g s (frF f) hg hs hw n2 h
 generalize frF f = vars at *
 have hvlen : ((vars.map AV.str).length : Int) = vars.length := by simp
 by_cases h4 : vars.length ≤ 4
 ·have hEf := hEf (by omega)
  have hEg := hEg (by omega)
  refine Tri.enter 46 Tryz.func15 rfl rfl rfl rfl fun Fr w0 => ?_
  repeat' (first | (refine AW.r 0 ?_; refine AL.d (AOp.box_ro rfl rfl) ?_; refine AL.d (AOp.box_ro rfl rfl) ?_; refine AL.d (AOp.box_ro rfl rfl) ?_; refine xN 1 ?_) | (refine xS 1 2 ?_; refine AL.d (AOp.call rfl rfl hL) ?_; refine xN 1 ?_) | (refine xS 3 1 ?_; refine AL.d (AOp.call_nil2 rfl rfl hF) ?_; refine xN 1 ?_) | refine AW.re 4 3 ?_ | refine AW.jf ?_ | refine AW.jj (fun hb => ?_) (fun hb => ?_) | refine AW.go ?_ | fail)
  all_goals try (exfalso; simp only [dT, dF] at *; omega)
  repeat' (first | (refine xS 6 3 ?_; refine AL.callQ rfl rfl hEf rfl ?_ ?_; rotate_left; rintro _ _ ⟨_, _, e, _⟩; cases e; rintro _ _ ⟨v1, b1, e, rfl, hq1⟩; injection e with e; subst e <;> refine AL.es 5 ?_ <;> refine AL.nil ?_) | refine AW.go ?_ | fail)
  repeat' (first | (refine xS 7 3 ?_; refine AL.callQ rfl rfl hEg rfl ?_ ?_; rotate_left; rintro _ _ ⟨_, _, e, _⟩; cases e; rintro _ _ ⟨v2, b2, e, rfl, hq2⟩; injection e with e; subst e <;> refine AL.es 5 ?_ <;> refine AL.nil ?_) | refine AW.go ?_ | fail)
  cases b1 with
  | false =>
   repeat' (first | (refine xS 8 3 ?_; refine AL.es 4 ?_; refine AL.es 2 ?_; refine AL.gs ?_; refine xN 2 ?_) | fail)
   exact AW.retv rfl ⟨rfl, rfl⟩
  | true =>
   cases b2 with
   | false =>
    repeat' (first | (refine xS 8 3 ?_; refine AL.es 4 ?_; refine AL.es 2 ?_; refine AL.gs ?_; refine xN 2 ?_) | fail)
    exact AW.retv rfl ⟨rfl, rfl⟩
   | true =>
    obtain ⟨N, s1, p1, e1⟩ := hq1 rfl
    obtain ⟨N', s2, p2, e2⟩ := hq2 rfl
    obtain rfl : N = N' := by have := s1.size; have := s2.size; omega
    rw [qryL_eq (fun t => hsem N t s1.n1)] at e2
    have hST := ref_SameT (qryL N M f (strT N s) vars (N ^ vars.length)) (by have := qryL_len N M f (strT N s) vars (N ^ vars.length); omega) (fun t ht => by rw [qryL_len2 _ _ _ _ _ _ t ht]; omega)
    rw [← e1] at e2
    subst e2
    rw [← e1] at hST
    repeat' (first | (refine xS 8 3 ?_; refine AL.es 4 ?_; refine AL.es 2 ?_; ((refine AL.gd ?_; refine AL.d (AOp.call rfl rfl hST) ?_)) <;> refine AL.es 2 ?_ <;> refine AL.nil ?_) | fail)
    exact AW.retv rfl ⟨rfl, rfl⟩
 ·refine Tri.enter 46 Tryz.func15 rfl rfl rfl rfl fun Fr w0 => ?_
  repeat' (first | (refine AW.r 0 ?_; refine AL.d (AOp.box_ro rfl rfl) ?_; refine AL.d (AOp.box_ro rfl rfl) ?_; refine AL.d (AOp.box_ro rfl rfl) ?_; refine xN 1 ?_) | (refine xS 1 2 ?_; refine AL.d (AOp.call rfl rfl hL) ?_; refine xN 1 ?_) | (refine xS 3 1 ?_; refine AL.d (AOp.call_nil2 rfl rfl hF) ?_; refine xN 1 ?_) | refine AW.re 4 3 ?_ | refine AW.re 5 1 ?_ | refine AW.jf ?_ | refine AW.jj (fun hb => ?_) (fun hb => ?_) | refine AW.go ?_ | fail)
  all_goals try (exfalso; simp only [dT, dF] at *; omega)
  exact AW.retv rfl ⟨rfl, rfl⟩
theorem ref_Logical : ∀ (N : Nat) (f : GFml), ndF f ≤ N → f.Ok → Tri Tryz.prog 29 [f.st] [] (D (.bool (lgB f)) []) := by
 intro N
 induction N using Nat.strongRecOn with
 | _ N ih =>
  intro f hN ho
  have hn := ndF_eq f
  obtain ⟨h1, h6, h7⟩ := ho
  have hc := fun x (hx : x ∈ f.Kids) => ih (ndF x) (by have := ndFs_mem hx; omega) x (Nat.le_refl _) (h7 x hx)
  obtain ⟨k, ar, nm, vars, args, kids⟩ := f
  rw [lgB]
  simp only at *
  by_cases hk : 3 ≤ k ∧ k ≤ 7
  ·rw [decide_eq_true hk.1, decide_eq_true hk.2, Bool.true_and, Bool.true_and]
   refine Tri.enter 41 Tryz.func29 rfl rfl rfl rfl fun Fr w0 => ?_
   repeat' (first | (refine AW.r 0 ?_; (refine AL.d (AOp.box_ro (v := .st [.int .i64 k, .int .i64 ar, .str nm, strs vars, strs args, .sl (kids.map GFml.av)]) rfl rfl) ?_) <;> refine AL.es 1 ?_ <;> refine AL.nil ?_) | (refine xS 1 4 ?_; ((refine AL.gx (fun hb => ?_) (fun hb => ?_) <;> refine AL.es 5 ?_)) <;> (first | refine AL.es 5 ?_ | (refine AL.gx (fun hb => ?_) (fun hb => ?_) <;> refine AL.es 5 ?_)) <;> (first | refine AL.es 5 ?_ | (refine AL.gx (fun hb => ?_) (fun hb => ?_) <;> refine AL.es 5 ?_)) <;> (first | refine AL.es 4 ?_ | (refine AL.gx (fun hb => ?_) (fun hb => ?_) <;> refine AL.es 4 ?_)) <;> refine AL.nil ?_) | refine AW.re 2 1 ?_ | refine AW.re 3 1 ?_ | refine AW.jf ?_ | refine AW.jj (fun hb => ?_) (fun hb => ?_) | refine AW.go ?_ | fail)
   all_goals try (exfalso; simp only [bne_iff_ne, ne_eq, bne_eq_false_iff_eq] at *; omega)
   all_goals
    refine AW.prune [1, 3] (AW.loop (fun mz af h => ∃ (i : Nat), i ≤ kids.length ∧ mz = kids.length - i ∧ af = [(1, .at (.st [.int .i64 k, .int .i64 ar, .str nm, strs vars, strs args, .sl (kids.map GFml.av)])), (3, .int .i64 i)] ∧ h = [] ∧ lgL kids = lgL (kids.drop i)) kids.length ⟨0, Nat.zero_le _, rfl, rfl, rfl, rfl⟩ ?_)
    rintro mz af h ⟨i, hi, rfl, rfl, rfl, he⟩
    refine AW.seq ?_
    by_cases hlt : i < kids.length
    ·obtain ⟨x, hx⟩ := get_lt hlt
     have hx' : (kids.map GFml.av)[((i : Nat) : Int).toNat]? = some (x.st) := GFml.get hx
     have hcx := hc x (lG hx)
     rw [drop_cons hx, lgL] at he
     cases hb0 : lgB x <;> rw [hb0] at hcx he
     ·repeat' (first | refine AW.re 4 5 ?_ | (refine xS 6 3 ?_; refine AL.d (iX hx') ?_; refine AL.es 1 ?_; refine AL.d (AOp.call rfl rfl hcx) ?_; refine xN 1 ?_) | refine AW.re 7 1 ?_ | refine AW.jt ?_ | refine AW.jj (fun hb => ?_) (fun hb => ?_) | refine AW.go ?_ | fail)
      all_goals try (exfalso; simp only [dT, dF, lM] at *; omega)
      exact AW.retv rfl ⟨retB (by rw [he]; rfl), rfl⟩
     ·repeat' (first | refine AW.re 4 5 ?_ | (refine xS 6 3 ?_; refine AL.d (iX hx') ?_; refine AL.es 1 ?_; refine AL.d (AOp.call rfl rfl hcx) ?_; refine xN 1 ?_) | (refine xS 5 1 ?_; refine AL.d AOp.ad ?_; refine xN 1 ?_) | refine AW.jf ?_ | refine AW.jj (fun hb => ?_) (fun hb => ?_) | refine AW.go ?_ | fail)
      all_goals try (exfalso; simp only [dT, dF, lM] at *; omega)
      refine AW.again_keep (kids.length - (i + 1)) [1, 3] (by omega) ⟨i + 1, hlt, rfl, rfl, rfl, ?_⟩
      rw [he]; rfl
    ·rw [List.drop_eq_nil_of_le (by omega)] at he
     repeat' (first | refine AW.re 4 5 ?_ | refine AW.re 8 1 ?_ | refine AW.jj (fun hb => ?_) (fun hb => ?_) | refine AW.go ?_ | fail)
     all_goals try (exfalso; simp only [dT, dF, lM] at *; omega)
     exact AW.retv rfl ⟨retB (by rw [he]; simp [lgL]), rfl⟩
  ·have e : (decide (3 ≤ k) && decide (k ≤ 7)) = false := by
    by_cases h3 : 3 ≤ k
    ·rw [decide_eq_false (show ¬ k ≤ 7 by omega), Bool.and_false]
    ·rw [decide_eq_false h3]; rfl
   rw [e, Bool.false_and]
   refine Tri.enter 41 Tryz.func29 rfl rfl rfl rfl fun Fr w0 => ?_
   repeat' (first | (refine AW.r 0 ?_; (refine AL.d (AOp.box_ro (v := .st [.int .i64 k, .int .i64 ar, .str nm, strs vars, strs args, .sl (kids.map GFml.av)]) rfl rfl) ?_) <;> refine AL.es 1 ?_ <;> refine AL.nil ?_) | (refine xS 1 4 ?_; ((refine AL.gx (fun hb => ?_) (fun hb => ?_) <;> refine AL.es 5 ?_)) <;> (first | refine AL.es 5 ?_ | (refine AL.gx (fun hb => ?_) (fun hb => ?_) <;> refine AL.es 5 ?_)) <;> (first | refine AL.es 5 ?_ | (refine AL.gx (fun hb => ?_) (fun hb => ?_) <;> refine AL.es 5 ?_)) <;> (first | refine AL.es 4 ?_ | (refine AL.gx (fun hb => ?_) (fun hb => ?_) <;> refine AL.es 4 ?_)) <;> refine AL.nil ?_) | refine AW.re 2 1 ?_ | refine AW.jf ?_ | refine AW.jj (fun hb => ?_) (fun hb => ?_) | refine AW.go ?_ | fail)
   all_goals first | exact AW.retv rfl ⟨rfl, rfl⟩ | (exfalso; simp only [bne_iff_ne, ne_eq, bne_eq_false_iff_eq] at *; omega) | fail
def siP (f : GFml) : GFml × Int := bif validF f then (siF f, 0) else (noF, 1)
theorem n_Simple (f : GFml) (ho : f.Ok) : Tri Tryz.prog 27 [f.st] [] (D (.tup [(siP f).1.st, .int .i64 (siP f).2]) []) := by
 have hv := f_Valid f ho
 unfold siP
 cases hV : validF f with
 | true =>
  rw [hV] at hv
  have hsh := validF_shs hV
  have hnd : ndF f ≤ 4000 := by
   unfold validF at hV
   simp only [bA, dT] at hV
   have := ct_dp f 61
   have := this.2 (by omega)
   omega
  have hg := good_si f hsh (by omega)
  have hF := n_fit (siF f) (hg.ok ho)
  unfold fitF at hF
  rw [hg.valid hV, cond_true] at hF
  have hN := n_simple _ f (Nat.le_refl _) ho hsh (by omega)
  clear hg hsh hnd hV
  generalize siF f = g at *
  obtain ⟨k, ar, nm, vars, args, kids⟩ := f
  refine Tri.enter 13 Tryz.func27 rfl rfl rfl rfl fun Fr w0 => ?_
  repeat' (first | (refine AW.r 0 ?_; (refine AL.d (AOp.box_ro (v := .st [.int .i64 k, .int .i64 ar, .str nm, strs vars, strs args, .sl (kids.map GFml.av)]) rfl rfl) ?_) <;> refine AL.alloc_z (t := 25) zF (by kernel_rfl) rfl rfl fun r => ?_ <;> refine AL.es 1 ?_ <;> refine AL.nil ?_) | (refine AW.r 1 ?_; refine AL.d AOp.la ?_; refine AL.d (AOp.call rfl rfl (hv.pure _)) ?_; refine xN 1 ?_) | (refine AW.r 3 ?_; refine AL.d AOp.la ?_; refine AL.d (AOp.call rfl rfl (hN.pure _)) ?_; refine AL.d (AOp.call rfl rfl (hF.pure _)) ?_; refine AL.es 2 ?_; refine AL.sl 0 ?_; refine xN 1 ?_) | refine AW.jf ?_ | fail)
  exact AW.retc (.cell 0 rfl rfl (by kernel_rfl) (.tmp rfl .nil)) (List.nil_sublist _) ⟨rfl, rfl⟩
 | false =>
  rw [hV] at hv
  obtain ⟨k, ar, nm, vars, args, kids⟩ := f
  refine Tri.enter 13 Tryz.func27 rfl rfl rfl rfl fun Fr w0 => ?_
  repeat' (first | (refine AW.r 0 ?_; (refine AL.d (AOp.box_ro (v := .st [.int .i64 k, .int .i64 ar, .str nm, strs vars, strs args, .sl (kids.map GFml.av)]) rfl rfl) ?_) <;> refine AL.alloc_z (t := 25) zF (by kernel_rfl) rfl rfl fun r => ?_ <;> refine AL.es 1 ?_ <;> refine AL.nil ?_) | (refine AW.r 1 ?_; refine AL.d AOp.la ?_; refine AL.d (AOp.call rfl rfl (hv.pure _)) ?_; refine xN 1 ?_) | (refine AW.r 2 ?_; refine AL.d (AOp.build (pl := [(0, 1), (1, 1), (2, 1), (3, 1), (4, 1), (5, 1)]) (z := .st [.int .i64 0, .int .i64 0, .str ⟨#[]⟩, .sl [], .sl [], .sl []]) (by kernel_rfl) rfl rfl rfl) ?_ <;> refine AL.sl 0 ?_ <;> refine AL.es 1 ?_ <;> refine AL.nil ?_) | refine AW.jt ?_ | fail)
  exact AW.retc (.cell 0 rfl rfl (by kernel_rfl) (.tmp rfl .nil)) (List.nil_sublist _) ⟨rfl, rfl⟩
theorem cst_nd {g : GFml} (h : cst g = true) : ndF g = 1 ∧ (g.Kind = 4 ∨ g.Kind = 5) := by
 unfold cst at h
 simp only [bA, Bool.or_eq_true, beq_iff_eq] at h
 refine ⟨?_, h.2⟩
 rw [ndF_eq, List.length_eq_zero_iff.1 h.1, ndFs]
theorem law_NormSimple (f : GFml) (s : GStr) (ho : f.Ok) (hs : s.Ok) : Tri Tryz.prog 5 [f.st, s.av] [] (D (.bool true) []) := by
 have hF := few_one 600 (by omega) f ho
 have hFS := law_FewS s hs
 have hAl := alive
 by_cases hfew : wFs 600 [f] 0 ≤ 600
 ·rw [decide_eq_true hfew] at hF
  have hnd := few_nd hfew (by omega)
  have hV := ref_Valid f ho (by omega)
  have hN := n_Simple f ho
  unfold siP at hN
  cases hv : validF f with
  | false =>
   rw [hv] at hV hN
   have hS := ref_Same _ noF noF (Nat.le_refl _) noF_ok noF_ok
   rw [eqF_refl] at hS
   obtain ⟨k, ar, nm, vars, args, kids⟩ := f
   refine Tri.enter 84 Tryz.func5 rfl rfl rfl rfl fun Fr w0 => ?_
   repeat' (first | (refine AW.r 0 ?_; refine AL.d (AOp.box_ro rfl rfl) ?_; refine AL.d (AOp.box_ro rfl rfl) ?_; refine xN 1 ?_) | (refine AW.r 1 ?_; refine AL.d AOp.la ?_; refine AL.d (AOp.lit (e := 25) (sz := 6) (by kernel_rfl) rfl rfl rfl (P_one rfl) (by decide)) ?_; refine AL.d (AOp.call rfl rfl (hF.pure _)) ?_; refine AL.es 2 ?_; ((refine AL.gd ?_; (refine AL.d AOp.la ?_))) <;> ((refine AL.gd ?_; (refine AL.d (AOp.lit (e := 28) (sz := 2) (by kernel_rfl) rfl rfl rfl (P_one rfl) (by decide)) ?_))) <;> ((refine AL.gd ?_; ((refine AL.callQ rfl rfl hFS rfl ?_ ?_; rotate_left; rintro _ _ ⟨_, e, _⟩; cases e; rintro _ _ ⟨b, e, rfl⟩; injection e with e; subst e; cases b)))) <;> refine AL.es 2 ?_ <;> refine AL.nil ?_) | (refine AW.r 2 ?_; refine AL.d (AOp.call rfl rfl (hAl.pure _)) ?_; refine xN 1 ?_) | refine AW.jt ?_ | refine AW.jf ?_ | refine AW.go ?_ | fail)
   ·exact AW.retv rfl ⟨rfl, rfl⟩
   repeat' (first | (refine AW.r 3 ?_; refine AL.d AOp.la ?_; refine AL.d (AOp.call rfl rfl (hN.pure _)) ?_; refine AL.es 3 ?_; refine AL.alloc_z (t := 25) zF (by kernel_rfl) rfl rfl fun r5 => ?_; refine AL.sl 0 ?_; refine xN 1 ?_) | (refine AW.r 4 ?_; refine AL.d AOp.la ?_; refine AL.d (AOp.call rfl rfl (hV.pure _)) ?_; refine xN 1 ?_) | (refine xS 5 3 ?_; ((refine AL.gd ?_; (refine AL.d (AOp.lw 0) ?_))) <;> ((refine AL.gd ?_; refine AL.d (AOp.build (pl := [(0, 1), (1, 1), (2, 1), (3, 1), (4, 1), (5, 1)]) (z := .st [.int .i64 0, .int .i64 0, .str ⟨#[]⟩, .sl [], .sl [], .sl []]) (by kernel_rfl) rfl rfl rfl) ?_)) <;> ((refine AL.gd ?_; (refine AL.d (AOp.call rfl rfl (hS.pure _)) ?_))) <;> refine AL.es 2 ?_ <;> ((refine AL.gd ?_; (refine AL.d (AOp.call rfl rfl (hAl.pure _)) ?_))) <;> refine AL.es 2 ?_ <;> refine AL.nil ?_) | refine AW.jt ?_ | fail)
   exact AW.ret_drop rfl (List.nil_sublist _) ⟨rfl, rfl⟩
  | true =>
   rw [hv] at hV hN
   have hsh := validF_shs hv
   have hg := good_si f hsh (by omega)
   have hgo := hg.ok ho
   have hgv := hg.valid hv
   have hgn := hg.nd
   have hM := means_of 6000 (by omega) f (siF f) s ho hgo hs hv hgv (by omega) (by omega) (fun x hx => (frF_fv f x).2 (hg.fv x ((frF_fv _ x).1 hx))) (fun y hy => hg.oc y [] hy) (fun N t hN => hg.sem N 6000 _ _ hN)
   have hC1 := ref_Count 60 f (by omega) ho (by omega)
   have hC2 := ref_Count 60 (siF f) (by omega) hgo (by omega)
   have hd : dpF f ≤ 60 := by
    unfold validF at hv
    simp only [bA, dT] at hv
    have := ct_dp f 61
    omega
   have c1 := (ct_dp f 60).2 (by omega)
   have c2 := (ct_dp (siF f) 60).2 (by have := hg.dp; omega)
   rw [c1] at hC1
   rw [c2] at hC2
   have hLg := ref_Logical _ f (Nat.le_refl _) ho
   have hlg := fun h => cst_nd (lg_cst f hsh h)
   generalize (ctF f 60).2 = d1 at *
   generalize (ctF (siF f) 60).2 = d2 at *
   generalize lgB f = LG at *
   clear hfew hg c1 c2 hd
   generalize siF f = g at *
   generalize hn1 : ndF f = m1 at *
   generalize hn2 : ndF g = m2 at *
   obtain ⟨k', ar', nm', vars', args', kids'⟩ := g
   obtain ⟨k, ar, nm, vars, args, kids⟩ := f
   refine Tri.enter 84 Tryz.func5 rfl rfl rfl rfl fun Fr w0 => ?_
   repeat' (first | (refine AW.r 0 ?_; refine AL.d (AOp.box_ro rfl rfl) ?_; refine AL.d (AOp.box_ro rfl rfl) ?_; refine xN 1 ?_) | (refine AW.r 1 ?_; refine AL.d AOp.la ?_; refine AL.d (AOp.lit (e := 25) (sz := 6) (by kernel_rfl) rfl rfl rfl (P_one rfl) (by decide)) ?_; refine AL.d (AOp.call rfl rfl (hF.pure _)) ?_; refine AL.es 2 ?_; ((refine AL.gd ?_; (refine AL.d AOp.la ?_))) <;> ((refine AL.gd ?_; (refine AL.d (AOp.lit (e := 28) (sz := 2) (by kernel_rfl) rfl rfl rfl (P_one rfl) (by decide)) ?_))) <;> ((refine AL.gd ?_; ((refine AL.callQ rfl rfl hFS rfl ?_ ?_; rotate_left; rintro _ _ ⟨_, e, _⟩; cases e; rintro _ _ ⟨b, e, rfl⟩; injection e with e; subst e; cases b)))) <;> refine AL.es 2 ?_ <;> refine AL.nil ?_) | (refine AW.r 2 ?_; refine AL.d (AOp.call rfl rfl (hAl.pure _)) ?_; refine xN 1 ?_) | refine AW.jt ?_ | refine AW.jf ?_ | refine AW.go ?_ | fail)
   ·exact AW.retv rfl ⟨rfl, rfl⟩
   repeat' (first | (refine AW.r 3 ?_; refine AL.d AOp.la ?_; refine AL.d (AOp.call rfl rfl (hN.pure _)) ?_; refine AL.es 3 ?_; refine AL.alloc_z (t := 25) zF (by kernel_rfl) rfl rfl fun r5 => ?_; refine AL.sl 0 ?_; refine xN 1 ?_) | (refine AW.r 4 ?_; refine AL.d AOp.la ?_; refine AL.d (AOp.call rfl rfl (hV.pure _)) ?_; refine xN 1 ?_) | (refine xS 6 3 ?_; ((refine AL.gd ?_; (refine AL.d AOp.la ?_))) <;> ((refine AL.gd ?_; (refine AL.d (AOp.lw 0) ?_))) <;> ((refine AL.gd ?_; (refine AL.d AOp.la ?_))) <;> ((refine AL.gd ?_; (refine AL.d (AOp.call rfl rfl (hM.pure _)) ?_))) <;> refine AL.es 2 ?_ <;> refine AL.nil ?_) | (refine AW.r 8 ?_; refine AL.d AOp.la ?_; refine AL.d (AOp.call rfl rfl (hC1.pure _)) ?_; refine xN 5 ?_) | (refine AW.r 9 ?_; refine AL.d (AOp.lw 0) ?_; refine AL.d (AOp.call rfl rfl (hC2.pure _)) ?_; refine xN 5 ?_) | refine AW.jf ?_ | refine AW.go ?_ | fail)
   simp only at hlg
   cases LG with
   | false =>
    repeat' (first | (refine xS 10 4 ?_; ((refine AL.gx (fun hb => ?_) (fun hb => ?_) <;> first | (refine AL.gd ?_; (refine AL.d AOp.la ?_)) | refine AL.gs ?_)) <;> (first | (refine AL.gd ?_; (refine AL.d (AOp.call rfl rfl (hLg.pure _)) ?_)) | refine AL.gs ?_) <;> refine AL.es 2 ?_ <;> (refine AL.es 3 ?_) <;> (refine AL.gu ?_) <;> (refine AL.gu ?_) <;> refine AL.es 2 ?_ <;> (refine AL.gu ?_) <;> (refine AL.gu ?_) <;> refine AL.es 6 ?_ <;> (first | (refine AL.gd ?_; (refine AL.d (AOp.call rfl rfl (hAl.pure _)) ?_)) | refine AL.gs ?_) <;> refine AL.es 2 ?_ <;> refine AL.nil ?_) | fail)
    all_goals first | exact AW.ret_drop rfl (List.nil_sublist _) ⟨rfl, rfl⟩ | (exfalso; simp only [dT, dF] at hb; omega) | fail
   | true =>
    obtain ⟨e1, e2⟩ := hlg rfl
    subst e1
    rcases e2 with rfl | rfl <;> repeat' (first | (refine xS 10 4 ?_; ((refine AL.gx (fun hb => ?_) (fun hb => ?_) <;> first | (refine AL.gd ?_; (refine AL.d AOp.la ?_)) | refine AL.gs ?_)) <;> (first | (refine AL.gd ?_; (refine AL.d (AOp.call rfl rfl (hLg.pure _)) ?_)) | refine AL.gs ?_) <;> refine AL.es 2 ?_ <;> (refine AL.es 3 ?_) <;> (first | (refine AL.gd ?_; (refine AL.d (AOp.fr 0) ?_)) | refine AL.gu ?_) <;> (first | (refine AL.gd ?_; (refine AL.d (AOp.ll 0) ?_)) | refine AL.gu ?_) <;> refine AL.es 2 ?_ <;> (first | (refine AL.gd ?_; (refine AL.d (AOp.fr 0) ?_)) | refine AL.gs ?_ | refine AL.gu ?_) <;> (first | (refine AL.gd ?_; (refine AL.d (AOp.ll 0) ?_)) | refine AL.gs ?_ | refine AL.gu ?_) <;> refine AL.es 6 ?_ <;> (first | (refine AL.gd ?_; (refine AL.d (AOp.call rfl rfl (hAl.pure _)) ?_)) | refine AL.gs ?_) <;> refine AL.es 2 ?_ <;> refine AL.nil ?_) | fail)
    all_goals first | exact AW.ret_drop rfl (List.nil_sublist _) ⟨rfl, rfl⟩ | (exfalso; simp only [dT, dF] at hb; omega) | fail
 ·rw [decide_eq_false hfew] at hF
  obtain ⟨k, ar, nm, vars, args, kids⟩ := f
  refine Tri.enter 84 Tryz.func5 rfl rfl rfl rfl fun Fr w0 => ?_
  repeat' (first | (refine AW.r 0 ?_; refine AL.d (AOp.box_ro rfl rfl) ?_; refine AL.d (AOp.box_ro rfl rfl) ?_; refine xN 1 ?_) | (refine AW.r 1 ?_; refine AL.d AOp.la ?_; refine AL.d (AOp.lit (e := 25) (sz := 6) (by kernel_rfl) rfl rfl rfl (P_one rfl) (by decide)) ?_; refine AL.d (AOp.call rfl rfl hF) ?_; refine AL.es 2 ?_; refine AL.gs ?_; refine AL.gs ?_; refine AL.gs ?_; refine xN 2 ?_) | (refine AW.r 2 ?_; refine AL.d (AOp.call rfl rfl hAl) ?_; refine xN 1 ?_) | refine AW.jt ?_ | fail)
  exact AW.retv rfl ⟨rfl, rfl⟩
section
variable {H : Type} {enc : TypeId × Value → H} {w : World}
theorem rdInt (N : Nat) : Rd enc Tryz.prog w N 3 iav iOk := Rd.int' (by kernel_rfl)
theorem rdStr (N : Nat) : Rd enc Tryz.prog w N 9 AV.str strOk := Rd.str' (by kernel_rfl)
theorem rdStrs (N : Nat) : Rd enc Tryz.prog w N 22 strs (lenOk 16 strOk) := Rd.slice' (by kernel_rfl) (rdStr N)
theorem rdFml : ∀ N : Nat, Rd enc Tryz.prog w N 25 GFml.av GFml.Ok := Rd.all fun N ih =>
 Rd.of_q (RdQ.struct' (by kernel_rfl) (.cons (rdInt N).q (.cons (rdInt N).q (.cons (rdStr N).q (.cons (rdStrs N).q (.cons (rdStrs N).q (.cons (Rd.slice' (T := 23) (n := 104) (by kernel_rfl) ih).q (.nil)))))))) fun v h => by
  obtain ⟨vs, rfl, h⟩ := h
  obtain ⟨_, v1, rfl, ⟨a, rfl, ha⟩, h1⟩ := h.un
  obtain ⟨_, v2, rfl, ⟨b, rfl, hb⟩, h2⟩ := h1.un
  obtain ⟨_, v3, rfl, ⟨c, rfl, hc⟩, h3⟩ := h2.un
  obtain ⟨_, v4, rfl, ⟨d, rfl, hd⟩, h4⟩ := h3.un
  obtain ⟨_, v5, rfl, ⟨e, rfl, he⟩, h5⟩ := h4.un
  obtain ⟨_, v6, rfl, ⟨f, rfl, hf⟩, h6⟩ := h5.un
  obtain rfl := h6.un0
  exact ⟨⟨a, b, c, d, e, f⟩, by rw [GFml.av_eq]; rfl, .mk ⟨ha, hb, hc, hd, he⟩ hf.1 hf.2⟩
end
section
variable {S S' : Rg} {w : World} {G : Nat}
end
section
variable {H : Type} {enc : TypeId × Value → H} {w : World}
theorem rdInts (N : Nat) : Rd enc Tryz.prog w N 52 ints (lenOk 8 iOk) := Rd.slice' (by kernel_rfl) (rdInt N)
theorem rdIntss (N : Nat) : Rd enc Tryz.prog w N 48 (fun l => .sl (l.map ints)) (lenOk 24 (lenOk 8 iOk)) := Rd.slice' (by kernel_rfl) (rdInts N)
theorem rdRel : ∀ N : Nat, Rd enc Tryz.prog w N 78 GRel.av GRel.Ok := Rd.of_succ fun N =>
 Rd.of_q (RdQ.struct' (by kernel_rfl) (.cons (rdStr N).q (.cons (rdInt N).q (.cons (rdIntss N).q (.nil))))) fun v h => by
  obtain ⟨vs, rfl, h⟩ := h
  obtain ⟨_, v1, rfl, ⟨a, rfl, ha⟩, h1⟩ := h.un
  obtain ⟨_, v2, rfl, ⟨b, rfl, hb⟩, h2⟩ := h1.un
  obtain ⟨_, v3, rfl, ⟨c, rfl, hc⟩, h3⟩ := h2.un
  obtain rfl := h3.un0
  exact ⟨⟨a, b, c⟩, rfl, ha, hb, hc⟩
theorem rdStr_ : ∀ N : Nat, Rd enc Tryz.prog w N 28 GStr.av GStr.Ok := Rd.of_succ fun N =>
 Rd.of_q (RdQ.struct' (by kernel_rfl) (.cons (rdInt N).q (.cons (Rd.slice' (T := 26) (n := 48) (by kernel_rfl) (rdRel N)).q (.nil)))) fun v h => by
  obtain ⟨vs, rfl, h⟩ := h
  obtain ⟨_, v1, rfl, ⟨a, rfl, ha⟩, h1⟩ := h.un
  obtain ⟨_, v2, rfl, ⟨b, rfl, hb⟩, h2⟩ := h1.un
  obtain rfl := h2.un0
  exact ⟨⟨a, b⟩, rfl, ha, hb⟩
end
end Go.Proofs.YtlpndgodkkndnaaGreatDoor
