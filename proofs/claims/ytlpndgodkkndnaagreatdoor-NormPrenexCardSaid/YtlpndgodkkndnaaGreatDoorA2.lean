/- Contracts of the functions, part 2. -/
import Derived.Test.YtlpndgodkkndnaaGreatDoorA1
import Derived.Test.YtlpndgodkkndnaaGreatDoorA1
import Derived.Test.YtlpndgodkkndnaaGreatDoorS2
import Derived.Test.YtlpndgodkkndnaaGreatDoorS3
import Derived.Shelf.Strconv.Itoa3
import Derived.Test.YtlpndgodkkndnaaGreatDoorProg
namespace Go.Proofs.YtlpndgodkkndnaaGreatDoor
open Go.RowKit Go.SX
set_option maxRecDepth 100000
set_option maxHeartbeats 4000000
set_option linter.unusedVariables false
set_option linter.unusedSimpArgs false
def CkPost (b mb mf : Nat) (env : ByteArray → List Int) (r : CkS) (x : AEnd) (h : AH) : Prop := x = .ret (.tup []) ∧ ∃ A' gA', (∀ k, envA A' k = env k) ∧ h = ckH b mb mf r A' gA'
theorem chk_walk : ∀ (N : Nat) (f : GFml) (lv : Int) (A : List (ByteArray × Stk)) (gA : MG) (s : CkS) (b mb mf : Nat), ndF f ≤ N → f.Ok → 0 ≤ lv → lv ≤ 61 → s.bad = false → 0 ≤ s.n → s.n ≤ 4000 → (∀ k, ((envA A k).length : Int) ≤ lv) →
  Tri Tryz.prog 147 [.ref b 0, f.st, .int .i64 lv] (ckH b mb mf s A gA) (CkPost b mb mf (envA A) (chk f lv (envA A) s)) := by
 intro N
 induction N using Nat.strongRecOn with
 | _ N ih =>
  intro f lv A gA s b mb mf hN ho hlv0 hlv hbad hn0 hn1 hlen
  have hnd := ndF_eq f
  have hB := f_binds f
  have hS := f_shaped f ho
  obtain ⟨⟨_, _, _, q4, q5⟩, q6, q7⟩ := ho
  have l5 := q5.1
  obtain ⟨n, d, bad, F, gF⟩ := s
  simp only at hbad hn0 hn1
  subst hbad
  have hfin := chk_fin f.Kind f.Arity f.Name f.Vars f.Args f.Kids lv (envA A) ⟨n, d, false, F, gF⟩
  obtain ⟨k, ar, nm, vars, args, kids⟩ := f
  simp only at *
  generalize hR : chk ⟨k, ar, nm, vars, args, kids⟩ lv (envA A) ⟨n, d, false, F, gF⟩ = R at *
  rw [chk] at hR
  simp only at hR
  simp only [ckH, ckBox]
  refine Tri.enterD 162 Tryz.func147 rfl rfl rfl rfl fun Fr w0 => ?_
  repeat' (first | (refine AW.r 0 ?_; refine AL.box (v := .ref b 0) rfl rfl rfl fun rc => ?_; (refine AL.d (AOp.box_ro (v := .st [.int .i64 k, .int .i64 ar, .str nm, strs vars, strs args, .sl (kids.map GFml.av)]) rfl rfl) ?_) <;> refine AL.nil ?_) | (refine AW.r 1 ?_; refine AL.d (AOp.ll 0) ?_; refine AL.es 1 ?_; refine AL.d (AOp.fr 0) ?_; refine AL.d (AOp.ll 1) ?_; refine AL.d AOp.ad ?_; refine AL.es 1 ?_; refine AL.d (AOp.fr 0) ?_; refine AL.sl 1 ?_; refine AL.nil ?_) | (refine AW.dl 2 9 ?_; refine AQ.p rfl (AOp.ll 0) ?_; refine AQ.p rfl (AOp.ll 0) ?_; refine AQ.es 1 ?_; refine AQ.p rfl (AOp.fr 1) ?_; refine AQ.p rfl (AOp.ll 1) ?_; refine AQ.es 1 ?_; refine AQ.p rfl (AOp.max2 rfl rfl) ?_; refine AQ.es 1 ?_; refine AQ.p rfl (AOp.fr 1) ?_; refine AQ.nil ?_; refine AL.sl 1 ?_; refine AL.nil ?_) | refine AW.go ?_ | fail)
  refine AW.cut (fun af ah => ∃ v : Bool, af = [(2, .int .i64 lv), (3, .ref rc 0), (4, .at (.st [.int .i64 k, .int .i64 ar, .str nm, strs vars, strs args, .sl (kids.map GFml.av)])), (43, .bool v)] ∧ ah = .box rc (.ref b 0) :: ckH b mb mf ⟨n + 1, max d lv, false, F, gF⟩ A gA ∧ (v = true ↔ (4000 < n + 1 ∨ 60 < lv ∨ shapedP ⟨k, ar, nm, vars, args, kids⟩ = false))) ?_ ?_
  ·repeat' (first | (refine AW.r 3 ?_; refine AL.d (AOp.ll 0) ?_; refine AL.es 1 ?_; refine AL.d (AOp.fr 0) ?_; refine AL.d (AOp.ll 1) ?_; refine AL.es 2 ?_; ((refine AL.gx (fun hb => ?_) (fun hb => ?_) <;> refine AL.es 4 ?_)) <;> (first | refine AL.gs ?_ | (refine AL.gx (fun hb => ?_) (fun hb => ?_) <;> first | (refine AL.gd ?_; (refine AL.d AOp.la ?_)) | refine AL.gs ?_)) <;> (first | (refine AL.gd ?_; refine AL.d (AOp.call rfl rfl (hS.pure _)) ?_) | refine AL.gs ?_) <;> refine AL.es 2 ?_ <;> refine AL.nil ?_) | fail)
   all_goals refine AW.meet [2, 3, 4, 43] ⟨_, rfl, rfl, ?_⟩
   all_goals simp only [dT, dF] at *
   all_goals first
    | (simp; omega)
    | (rw [Bool.not_eq_true']; exact ⟨fun h => .inr (.inr h), fun h => by rcases h with h | h | h <;> first | omega | fail⟩)
  rintro af ah ⟨v, rfl, rfl, hv⟩
  cases v with
  | true =>
   repeat' (first | (refine AW.r 4 ?_; refine AL.d (AOp.ll 0) ?_; refine AL.es 1 ?_; refine AL.d (AOp.fr 4) ?_; refine AL.sl 1 ?_; refine AL.nil ?_) | (refine AW.r 5 ?_; refine AL.d (AOp.ll 0) ?_; refine AL.es 1 ?_; refine AL.d (AOp.fr 4) ?_; refine AL.d (AOp.ll 1) ?_; refine AL.nil ?_) | refine AW.jt ?_ | fail)
   refine AW.drop (List.sublist_cons_self _ _) ?_
   refine AW.retD0 .nil ⟨rfl, A, gA, fun _ => rfl, ?_⟩
   rw [if_pos (hv.1 rfl)] at hR
   rw [← hR]
   rfl
  | false =>
  have hv0 : ¬ (4000 < n + 1 ∨ 60 < lv ∨ shapedP ⟨k, ar, nm, vars, args, kids⟩ = false) := fun h => by have := hv.2 h; cases this
  rw [if_neg hv0] at hR
  have hsh : shapedP ⟨k, ar, nm, vars, args, kids⟩ = true := by
   cases h : shapedP ⟨k, ar, nm, vars, args, kids⟩ with
   | true => rfl
   | false => exact (hv0 (.inr (.inr h))).elim
  have hn2 : n + 1 ≤ 4000 := by omega
  have hlv2 : lv ≤ 60 := by omega
  clear hv hv0 hS
  repeat' (first | (refine AW.r 5 ?_; refine AL.d (AOp.ll 0) ?_; refine AL.es 1 ?_; refine AL.d (AOp.fr 4) ?_; refine AL.d (AOp.ll 1) ?_; refine AL.nil ?_) | refine AW.jf ?_ | fail)
  refine AW.skip (AW.seq ?_)
  generalize hE2 : (bif bindsB ⟨k, ar, nm, vars, args, kids⟩ then pushE (envA A) nm (bindsN ⟨k, ar, nm, vars, args, kids⟩) else envA A) = env2 at *
  refine AW.cut (fun af ah => ∃ s2 : CkS, af = [(2, .int .i64 lv), (3, .ref rc 0), (4, .at (.st [.int .i64 k, .int .i64 ar, .str nm, strs vars, strs args, .sl (kids.map GFml.av)]))] ∧ ah = .box rc (.ref b 0) :: ckH b mb mf s2 A gA ∧ 0 ≤ s2.n ∧ s2.n ≤ 4000 ∧ (s2.bad = false ∨ (kids = [] ∧ k = 0)) ∧ R = fin k nm kids (chkL kids (lv + 1) env2 s2)) ?_ ?_
  ·repeat' (first | (refine AW.r 6 ?_; refine AL.d AOp.fa ?_; refine AL.d AOp.la ?_; refine xN 1 ?_) | refine AW.jj (fun hb => ?_) (fun hb => ?_) | fail)
   ·have k0 : k = 0 := by simpa using hb
    obtain rfl : kids = [] := shaped_rel hsh k0
    rw [if_pos k0] at hR
    have hmeet : ∀ s2 : CkS, R = s2 → R = fin k nm [] (chkL [] (lv + 1) env2 s2) := fun s2 h => by
     rw [chkL, h, fin]
     cases hb2 : s2.bad with
     | true => rfl
     | false =>
      obtain ⟨u1, u2, u3, u4, u5⟩ := s2
      simp only at hb2
      subst hb2
      rw [k0]
      rfl
    refine AW.seq ?_
    refine AW.cut (fun af ah => af = [(2, .int .i64 lv), (3, .ref rc 0), (4, .at (.st [.int .i64 k, .int .i64 ar, .str nm, strs vars, strs args, .sl (([] : List GFml).map GFml.av)]))] ∧ ah = .box rc (.ref b 0) :: ckH b mb mf ⟨n + 1, max d lv, false, F, gF⟩ A gA ∧ envA A nm = []) ?_ ?_
    ·cases hL : lookA A nm with
     | none =>
      repeat' (first | (refine AW.dq 7 ?_; refine AQ.p rfl (AOp.ll 0) ?_; refine AQ.es 1 ?_; refine AQ.p rfl (AOp.fr 2) ?_; refine AQ.p rfl (AOp.ll 1) ?_; refine AQ.p rfl AOp.fa ?_; refine AQ.p rfl AOp.la ?_; refine AQ.p rfl (AOp.lookS_miss 2 52 (.slice none 0 0) (ok := false) hL rfl rfl rfl (by kernel_rfl) (by kernel_rfl)) ?_; refine AQ.es 1 ?_; refine AQ.nil ?_) | (refine xS 8 1 ?_; refine AL.d AOp.ln ?_; refine xN 1 ?_) | refine AW.jf ?_ | refine AW.go ?_ | fail)
      all_goals try (exfalso; simp only [dT, dF] at *; omega)
      exact AW.meet [2, 3, 4] ⟨rfl, rfl, by simp only [envA, hL]⟩
     | some t =>
      obtain ⟨tb, tl, tt⟩ := t
      obtain ⟨j, hj1, hj2⟩ := setA_hit hL
      have henv : envA A nm = tl := by simp only [envA, hL]
      have htl := hlen nm
      rw [henv] at htl
      repeat' (first | (refine AW.dq 7 ?_; refine AQ.p rfl (AOp.ll 0) ?_; refine AQ.es 1 ?_; refine AQ.p rfl (AOp.fr 2) ?_; refine AQ.p rfl (AOp.ll 1) ?_; refine AQ.p rfl AOp.fa ?_; refine AQ.p rfl AOp.la ?_; refine AQ.p rfl (AOp.lookS_hit 2 52 (g := Stk.av) (ok := false) hL rfl rfl rfl (by kernel_rfl)) ?_; refine AQ.es 1 ?_; refine AQ.nil ?_) | (refine xS 8 1 ?_; refine AL.d (AOp.len (v := Stk.av ⟨tb, tl, tt⟩) rfl rfl (by kernel_rfl)) ?_; refine xN 1 ?_) | refine AW.jj (fun hb => ?_) (fun hb => ?_) | refine AW.go ?_ | fail)
      ·have hpos : 0 < tl.length := by simpa using hb
       rw [henv] at hR
       obtain ⟨L, a, rfl⟩ : ∃ L a, tl = L ++ [a] := ⟨tl.dropLast, tl.getLast (by intro h; rw [h] at hpos; simp at hpos), (List.dropLast_concat_getLast _).symm⟩
       have hrow : ∀ x0 x1 x2 x3 : Own, (x0 :: x1 :: x2 :: x3 :: rowsA A)[j + 4]? = some (.row tb ((L ++ [a]).map iav ++ tt)) := fun x0 x1 x2 x3 => rowsA_get hj1
       have hcell : ((L ++ [a]).map iav ++ tt)[((((L ++ [a]).map iav).length : Int) - 1).toNat]? = some (iav a) := by
        have e : ((((L ++ [a]).map iav).length : Int) - 1).toNat = L.length := by simp
        rw [e, List.map_append, List.append_assoc, List.getElem?_append_right (by simp)]
        simp
       rw [List.getLast?_append, List.getLast?_singleton] at hR
       repeat' (first | (refine AW.dl 9 13 ?_; refine AQ.p rfl (AOp.ll 0) ?_; refine AQ.es 3 ?_; ((refine AQ.p rfl (AOp.sub rfl rfl (by simp only [lM]; omega)) ?_)) <;> refine AQ.p rfl (AOp.index_osl rfl rfl (by simp only [lM]; omega) (by simp only [lM]; omega) (by kernel_rfl)) ?_ <;> (refine AQ.p rfl (AOp.load_cell (j + 4) rfl (hrow _ _ _ _) hcell rfl (by kernel_rfl)) ?_) <;> (refine AQ.p rfl AOp.fa ?_) <;> (refine AQ.p rfl AOp.la ?_) <;> refine AQ.es 3 ?_ <;> (refine AQ.p rfl (AOp.fr 4) ?_) <;> refine AQ.nil ?_ <;> (refine AL.sl 1 ?_) <;> refine AL.nil ?_) | fail)
       refine AW.drop (List.sublist_cons_self _ _) ?_
       refine AW.retD0 .nil ⟨rfl, A, gA, fun _ => rfl, ?_⟩
       rw [← hR]
       simp only [lM]
       rfl
      ·have hnil : tl = [] := by
        have : ¬ 0 < tl.length := by simpa using hb
        exact List.eq_nil_of_length_eq_zero (by omega)
       exact AW.meet [2, 3, 4] ⟨rfl, rfl, by rw [henv, hnil]⟩
    rintro af ah ⟨rfl, rfl, henv⟩
    rw [henv] at hR
    simp only [List.getLast?_nil] at hR
    cases hF : lookA F nm with
    | none =>
     rw [hF] at hR
     repeat' (first | (refine AW.dq 10 ?_; refine AQ.p rfl (AOp.ll 0) ?_; refine AQ.es 1 ?_; refine AQ.p rfl (AOp.fr 3) ?_; refine AQ.p rfl (AOp.ll 1) ?_; refine AQ.p rfl AOp.fa ?_; refine AQ.p rfl AOp.la ?_; refine AQ.p rfl (AOp.lookS_miss 3 3 (.int .i64 0) (ok := true) hF rfl rfl rfl (by kernel_rfl) (by kernel_rfl)) ?_; refine AQ.es 5 ?_; refine AQ.nil ?_) | (refine xS 11 2 ?_; refine AL.es 1 ?_; refine AL.gs ?_; refine AL.gs ?_; refine xN 3 ?_) | (refine AW.dl 13 9 ?_; refine AQ.p rfl (AOp.ll 0) ?_; refine AQ.es 1 ?_; refine AQ.p rfl (AOp.fr 3) ?_; refine AQ.p rfl (AOp.ll 1) ?_; refine AQ.p rfl AOp.fa ?_; refine AQ.p rfl AOp.la ?_; refine AQ.p rfl AOp.fa ?_; refine AQ.p rfl AOp.la ?_; refine AQ.es 1 ?_; refine AQ.nil ?_; refine AL.setS 3 3 iav (args.length : Int) rfl rfl rfl (by simp only [aeval, get_cons, lM]; rfl) (by kernel_rfl) ?_ <;> refine AL.nil ?_) | refine AW.jf ?_ | fail)
     exact AW.meet [2, 3, 4] ⟨⟨n + 1, max d lv, false, setA F nm args.length, gsetA F gF nm⟩, rfl, rfl, by simp only; omega, hn2, .inl rfl, hmeet _ hR.symm⟩
    | some a =>
     rw [hF] at hR
     repeat' (first | (refine AW.dq 10 ?_; refine AQ.p rfl (AOp.ll 0) ?_; refine AQ.es 1 ?_; refine AQ.p rfl (AOp.fr 3) ?_; refine AQ.p rfl (AOp.ll 1) ?_; refine AQ.p rfl AOp.fa ?_; refine AQ.p rfl AOp.la ?_; refine AQ.p rfl (AOp.lookS_hit 3 3 (g := iav) (ok := true) hF rfl rfl rfl (by kernel_rfl)) ?_; refine AQ.es 5 ?_; refine AQ.nil ?_) | (refine xS 11 2 ?_; refine AL.es 1 ?_; ((refine AL.gd ?_; (refine AL.d AOp.fa ?_))) <;> ((refine AL.gd ?_; (refine AL.d AOp.la ?_))) <;> refine AL.es 3 ?_ <;> refine AL.nil ?_) | (refine AW.r 12 ?_; refine AL.d (AOp.ll 0) ?_; refine AL.es 1 ?_; refine AL.d (AOp.fr 4) ?_; refine AL.sl 1 ?_; refine AL.nil ?_) | (refine AW.dl 13 9 ?_; refine AQ.p rfl (AOp.ll 0) ?_; refine AQ.es 1 ?_; refine AQ.p rfl (AOp.fr 3) ?_; refine AQ.p rfl (AOp.ll 1) ?_; refine AQ.p rfl AOp.fa ?_; refine AQ.p rfl AOp.la ?_; refine AQ.p rfl AOp.fa ?_; refine AQ.p rfl AOp.la ?_; refine AQ.es 1 ?_; refine AQ.nil ?_; refine AL.setS 3 3 iav (args.length : Int) rfl rfl rfl (by simp only [aeval, get_cons, lM]; rfl) (by kernel_rfl) ?_ <;> refine AL.nil ?_) | refine AW.jj (fun hb => ?_) (fun hb => ?_) | fail)
     all_goals (simp only [lM] at hb; simp only [hb] at hR)
     ·exact AW.meet [2, 3, 4] ⟨⟨n + 1, max d lv, true, setA F nm args.length, gsetA F gF nm⟩, rfl, rfl, by simp only; omega, hn2, .inr ⟨rfl, k0⟩, hmeet _ hR.symm⟩
     ·exact AW.meet [2, 3, 4] ⟨⟨n + 1, max d lv, false, setA F nm args.length, gsetA F gF nm⟩, rfl, rfl, by simp only; omega, hn2, .inl rfl, hmeet _ hR.symm⟩
   ·have k0 : ¬ k = 0 := by simpa using hb
    rw [if_neg k0] at hR
    refine AW.skip ?_
    exact AW.meet [2, 3, 4] ⟨_, rfl, rfl, by simp only; omega, hn2, .inl rfl, hR.symm⟩
  rintro af ah ⟨s2, rfl, rfl, hs0, hs1, hsb, hRf⟩
  clear hR hfin
  unfold bindsS at hB
  repeat' (first | (refine AW.r 14 ?_; refine AL.d AOp.la ?_; refine AL.d (AOp.call rfl rfl (hB.pure _)) ?_; refine AL.es 4 ?_; refine AL.alloc_z (t := 9) (.str empB) (by kernel_rfl) rfl rfl fun r9 => ?_; refine AL.sl 0 ?_; refine xN 2 ?_) | fail)
  refine AW.prune [2, 3, 4, 9, 10, 11] ?_
  generalize hbn : bindsN ⟨k, ar, nm, vars, args, kids⟩ = bn at *
  cases hBb : bindsB ⟨k, ar, nm, vars, args, kids⟩ with
  | false =>
   rw [hBb, cond_false] at hE2
   refine AW.frame_eq (af' := [(2, .int .i64 lv), (3, .ref rc 0), (4, .at (.st [.int .i64 k, .int .i64 ar, .str nm, strs vars, strs args, .sl (kids.map GFml.av)])), (9, .ref r9 0), (10, .int .i64 bn), (11, .bool false)]) (ah' := .box r9 (.str empB) :: .box rc (.ref b 0) :: ckH b mb mf s2 A gA) rfl rfl ?_
   have hret : ∀ (R0 : Rg) (s3 : CkS) (A3 : List (ByteArray × Stk)) (g3 : MG), (∀ x, envA A3 x = env2 x) → R = s3 → ∀ ks af, AW (CofD Tryz.prog Tryz.f147 162 Fr R0 w0 (CkPost b mb mf (envA A) R)) [] (.c .ret :: ks) af (.box r9 (.str empB) :: .box rc (.ref b 0) :: ckH b mb mf s3 A3 g3) := by
    intro R0 s3 A3 g3 h1 h2 ks af
    refine AW.drop ((List.sublist_cons_self _ _).trans (List.sublist_cons_self _ _)) ?_
    exact AW.retD0 .nil ⟨rfl, A3, g3, fun x => by rw [h1, ← hE2], by rw [h2]⟩
   have hdone : ∀ (R0 : Rg) (s3 : CkS) (A3 : List (ByteArray × Stk)) (g3 : MG), (∀ x, envA A3 x = env2 x) → R = s3 → ∀ af, AW (CofD Tryz.prog Tryz.f147 162 Fr R0 w0 (CkPost b mb mf (envA A) R)) [] [] af (.box r9 (.str empB) :: .box rc (.ref b 0) :: ckH b mb mf s3 A3 g3) := by
    intro R0 s3 A3 g3 h1 h2 af
    refine AW.drop ((List.sublist_cons_self _ _).trans (List.sublist_cons_self _ _)) ?_
    exact AW.doneD0 .nil ⟨rfl, A3, g3, fun x => by rw [h1, ← hE2], by rw [h2]⟩
   have hA2 : ∀ x, envA A x = env2 x := fun x => by rw [hE2]
   have hlen2 : ∀ x, ((env2 x).length : Int) ≤ lv + 1 := fun x => by have := hlen x; rw [← hE2]; omega
   repeat' (first | refine AW.re 15 1 ?_ | refine AW.jf ?_ | fail)
   refine AW.skip ?_
   clear hBb hB
   refine AW.prune [2, 3, 4, 9] ?_
   repeat' (first | refine AW.re 18 4 ?_ | refine AW.go ?_ | fail)
   refine AW.prune [2, 3, 4, 9, 130, 131, 132] (AW.loop (fun mz af h => ∃ (i : Nat) (s3 : CkS) (A3 : List (ByteArray × Stk)) (g3 : MG), i ≤ kids.length ∧ mz = kids.length - i ∧ af = [(2, .int .i64 lv), (3, .ref rc 0), (4, .at (.st [.int .i64 k, .int .i64 ar, .str nm, strs vars, strs args, .sl (kids.map GFml.av)])), (9, .ref r9 0), (130, .sl (kids.map GFml.av)), (131, .int .i64 (kids.map GFml.av).length), (132, .int .i64 i)] ∧ h = .box r9 (.str empB) :: .box rc (.ref b 0) :: ckH b mb mf s3 A3 g3 ∧ (chkL kids (lv + 1) env2 s2 = chkL (kids.drop i) (lv + 1) env2 s3 ∧ (s3.bad = false ∨ (kids = [] ∧ k = 0)) ∧ 0 ≤ s3.n ∧ s3.n ≤ 4000 ∧ ∀ x, envA A3 x = env2 x)) kids.length ⟨0, s2, A, gA, Nat.zero_le _, rfl, rfl, rfl, ⟨rfl, hsb, hs0, hs1, hA2⟩⟩ ?_)
   rintro mz af h ⟨i, s3, A3, g3, hi, rfl, rfl, rfl, he⟩
   refine AW.seq ?_
   by_cases hlt : i < kids.length
   ·obtain ⟨he, hb3, g1, g2, hA3⟩ := he
    obtain ⟨x, hx⟩ := get_lt hlt
    have hx' : (kids.map GFml.av)[((i : Nat) : Int).toNat]? = some (x.st) := GFml.get hx
    have hxm := lG hx
    have hnx := ndFs_mem hxm
    have hb3' : s3.bad = false := hb3.resolve_right (fun h => by rw [h.1] at hlt; simp at hlt)
    have henv3 : envA A3 = env2 := funext hA3
    have hc := (ih (ndF x) (by omega) x (lv + 1) A3 g3 s3 b mb mf (Nat.le_refl _) (q7 x hxm) (by omega) (by omega) hb3' g1 g2 (by rw [henv3]; exact hlen2)).front [.box r9 (.str empB), .box rc (.ref b 0)]
    rw [henv3] at hc
    have hcn := chk_n x (lv + 1) env2 s3 hb3' g2
    rw [drop_cons hx, chkL] at he
    generalize chk x (lv + 1) env2 s3 = s4 at *
    repeat' (first | refine AW.re 19 1 ?_ | (refine AW.r 20 ?_; refine AL.d (iX hx') ?_; refine AL.d AOp.la ?_; refine AL.alloc_store (by kernel_rfl) rfl rfl rfl rfl ?_; refine AL.nil ?_) | (refine AW.r 21 ?_; refine AL.d (AOp.ll 1) ?_; refine AL.d AOp.la ?_; refine AL.es 1 ?_; refine AL.d AOp.ad ?_; (refine AL.callQ rfl rfl hc rfl ?_ ?_; rotate_left; rintro _ _ ⟨_, ⟨e, _⟩, _⟩; cases e; rintro _ _ ⟨_, ⟨e, A4, g4, hA4, rfl⟩, rfl⟩; injection e with e; subst e) <;> refine AL.nil ?_) | refine AW.jj (fun hb => ?_) (fun hb => ?_) | fail)
    all_goals try (exfalso; simp only [dT, dF, lM] at *; omega)
    refine AW.perm (b := .box r9 (.str empB) :: .box rc (.ref b 0) :: ckH b mb mf s4 A4 g4) (List.perm_append_comm (l₁ := ckH b mb mf s4 A4 g4) (l₂ := [_, _])) ?_
    repeat' (first | (refine AW.r 22 ?_; refine AL.d (AOp.ll 1) ?_; refine AL.es 1 ?_; refine AL.d (AOp.fr 4) ?_; refine AL.d (AOp.ll 2) ?_; refine AL.nil ?_) | refine AW.jj (fun hb => ?_) (fun hb => ?_) | refine AW.go ?_ | fail)
    ·rw [hb, cond_true] at he
     exact hret _ s4 A4 g4 hA4 (by rw [hRf, he, fin, hb, cond_true]) _ _
    ·rw [hb, cond_false] at he
     repeat' (first | (refine AW.r 23 ?_; refine AL.d AOp.ad ?_; refine xN 1 ?_) | fail)
     refine AW.again_keep (kids.length - (i + 1)) [2, 3, 4, 9, 130, 131, 132] (by omega) ⟨i + 1, s4, A4, g4, hlt, rfl, rfl, rfl, ?_⟩
     exact ⟨he, .inl hb, by omega, (hcn.2 hb).1, hA4⟩
   ·obtain ⟨he, hb3, g1, g2, hA3⟩ := he
    rw [List.drop_eq_nil_of_le (by omega), chkL] at he
    rw [he] at hRf
    repeat' (first | refine AW.re 19 1 ?_ | refine AW.jj (fun hb => ?_) (fun hb => ?_) | refine AW.go ?_ | fail)
    all_goals try (exfalso; simp only [dT, dF, lM] at *; omega)
    cases k8 : (k == 8) with
    | true =>
     have k80 : ¬ k = 0 := fun h => by rw [h] at k8; cases k8
     have hb3' : s3.bad = false := hb3.resolve_right (fun h => k80 h.2)
     have hsb' : s2.bad = false := hsb.resolve_right (fun h => k80 h.2)
     have hk1 := shaped_kid hsh (.inl (by simpa using k8))
     have hshs := ((chkL_n kids (lv + 1) env2 s2 hsb' hs1).2 (by rw [he]; exact hb3')).2
     obtain ⟨y, rfl⟩ : ∃ y, kids = [y] := by
      match kids, hk1 with
      | [y], _ => exact ⟨y, rfl⟩
     have hy : ([y].map GFml.av)[((0 : Int)).toNat]? = some y.st := by simp [GFml.av_eq]
     have hpos := f_positive nm _ y true (Nat.le_refl _) (q7 y (by simp)) (shsFs_mem hshs (by simp))
     have hf : R = { s3 with bad := !ps2 nm y true } := by rw [hRf, fin, hb3', cond_false, k8, psH, Bool.true_and]
     generalize ps2 nm y true = Y at *
     obtain rfl : k = 8 := by simpa using k8
     repeat' (first | (refine AW.dq 24 ?_; refine AQ.p rfl AOp.fa ?_; refine AQ.p rfl AOp.la ?_; refine AQ.es 2 ?_; refine AQ.gp rfl AOp.fa ?_; refine AQ.gp rfl AOp.la ?_; refine AQ.gp rfl (iX hy) ?_; refine AQ.gp rfl AOp.la ?_; refine AQ.gp rfl AOp.fa ?_; refine AQ.gp rfl AOp.la ?_; refine AQ.gp rfl (AOp.call rfl rfl (hpos.pure _)) ?_; refine AQ.es 2 ?_; refine AQ.nil ?_) | (refine AW.r 25 ?_; refine AL.d (AOp.ll 1) ?_; refine AL.es 1 ?_; refine AL.d (AOp.fr 4) ?_; refine AL.sl 2 ?_; refine AL.nil ?_) | refine AW.jj (fun hb => ?_) (fun hb => ?_) | refine AW.go ?_ | fail)
     ·exact hdone _ { s3 with bad := true } A3 g3 hA3 (by rw [hf, hb]) _
     ·refine AW.frame_eq rfl (show _ = .box r9 (.str empB) :: .box rc (.ref b 0) :: ckH b mb mf { s3 with bad := false } A3 g3 from by rw [← hb3']) ?_
      exact hdone _ { s3 with bad := false } A3 g3 hA3 (by rw [hf, hb]) _
    | false =>
     have hf : R = s3 := by
      rw [hRf, fin, k8, Bool.false_and]
      cases hq : s3.bad with
      | true => rfl
      | false => obtain ⟨v1, v2, v3, v4, v5⟩ := s3; simp only at hq; subst hq; rfl
     repeat' (first | (refine AW.dq 24 ?_; refine AQ.p rfl AOp.fa ?_; refine AQ.p rfl AOp.la ?_; refine AQ.es 2 ?_; ((refine AQ.x (fun hb => ?_) (fun hb => ?_) <;> first | refine AQ.gp rfl AOp.fa ?_ | refine AQ.k ?_)) <;> (first | refine AQ.gp rfl AOp.la ?_ | refine AQ.k ?_) <;> (first | (exfalso; simp only [dT, dF, lM, bne_iff_ne, ne_eq, bne_eq_false_iff_eq, beq_iff_eq, beq_eq_false_iff_ne] at *; omega) | refine AQ.k ?_) <;> (refine AQ.k ?_) <;> (refine AQ.k ?_) <;> (refine AQ.k ?_) <;> (refine AQ.k ?_) <;> refine AQ.es 2 ?_ <;> refine AQ.nil ?_) | refine AW.jf ?_ | refine AW.go ?_ | fail)
     all_goals try (exfalso; rw [k8] at hb; exact Bool.noConfusion hb)
     exact hdone _ s3 A3 g3 hA3 hf _
  | true =>
   rw [hBb, cond_true] at hE2
   refine AW.frame_eq (af' := [(2, .int .i64 lv), (3, .ref rc 0), (4, .at (.st [.int .i64 k, .int .i64 ar, .str nm, strs vars, strs args, .sl (kids.map GFml.av)])), (9, .ref r9 0), (10, .int .i64 bn), (11, .bool true)]) (ah' := .box r9 (.str nm) :: .box rc (.ref b 0) :: ckH b mb mf s2 A gA) rfl rfl ?_
   have hnmL := hlen nm
   repeat' (first | refine AW.re 15 1 ?_ | refine AW.jt ?_ | fail)
   refine AW.seq ?_
   refine AW.cut (fun af ah => ∃ (A2 : List (ByteArray × Stk)) (gA2 : MG), af = [(2, .int .i64 lv), (3, .ref rc 0), (4, .at (.st [.int .i64 k, .int .i64 ar, .str nm, strs vars, strs args, .sl (kids.map GFml.av)])), (9, .ref r9 0)] ∧ ah = .box r9 (.str nm) :: .box rc (.ref b 0) :: ckH b mb mf s2 A2 gA2 ∧ ∀ x, envA A2 x = env2 x) ?_ ?_
   ·cases hL : lookA A nm with
    | none =>
     refine AW.explore [false, false, false, true] [13, 14] rfl (by kernel_rfl) (by kernel_rfl) (by kernel_rfl) (by kernel_rfl) ?_
     repeat' (first | refine AQE.hole rfl rfl ?_ | refine AQE.ev rfl rfl rfl rfl ?_ | refine AQE.op rfl (AOp.fr 2) rfl rfl ?_ | refine AQE.op rfl (AOp.ll 0) rfl rfl ?_ | refine AQE.op rfl (AOp.ll 1) rfl rfl ?_ | refine AQE.op rfl (AOp.ll 2) rfl rfl ?_ | refine AQE.early rfl rfl (AOp.lookS_nil 0 52 (.slice none 0 0) hL rfl rfl rfl (by kernel_rfl) (by kernel_rfl) rfl) rfl rfl ?_ | refine AQE.op rfl (AOp.lit (e := 3) (sz := 1) (by kernel_rfl) rfl rfl rfl (P_one rfl) (by decide)) rfl rfl ?_ | refine AQE.nil ?_ | fail)
     refine AX.one (n := 1) 13 rfl ?_
     refine AXS.step (i := 13) rfl rfl rfl (AOp.append_i0 (v := iav bn) (e := 3) (bytes := 8) (c0 := .int .i64 0) rfl rfl rfl (by kernel_rfl) (by kernel_rfl) (by omega)) ?_ (by rintro _ _ ⟨_, _, e, _⟩; cases e)
     rintro _ _ ⟨b', tl', e, rfl⟩
     injection e with e
     subst e
     dsimp only [sA, sB]
     refine AX.one (n := 0) 14 rfl ?_
     refine AXS.step (i := 14) rfl rfl rfl (AOp.mapUpdate (i := 1) (kd := .string) (e := 52) (k := .str nm) (v := Stk.av ⟨b', [bn], tl'⟩) rfl rfl rfl rfl (by kernel_rfl) rfl (keysOK_kvW _ _)) ?_ (by rintro _ _ ⟨⟨_, e⟩, _⟩; cases e)
     rintro _ _ ⟨⟨_, e⟩, rfl⟩
     dsimp only [sA, sB]
     refine AX.done [(2, .int .i64 lv), (3, .ref rc 0), (4, .at (.st [.int .i64 k, .int .i64 ar, .str nm, strs vars, strs args, .sl (kids.map GFml.av)])), (9, .ref r9 0)] rfl ?_
     clear e
     rw [mset_kvW, gset_kvW]
     have hrw : rowsA (setA A nm ⟨b', [bn], tl'⟩) = rowsA A ++ [Own.row b' ([iav bn] ++ tl')] := by rw [setA_miss hL]; simp [rowsA, Stk.row]
     refine AW.perm (b := .box r9 (.str nm) :: .box rc (.ref b 0) :: ckH b mb mf s2 (setA A nm ⟨b', [bn], tl'⟩) (gsetA A gA nm)) ?_ (AW.meet [2, 3, 4, 9] ⟨_, _, rfl, rfl, fun x => ?_⟩)
     ·unfold ckH
      rw [hrw]
      exact ((List.perm_append_singleton _ _).symm).trans (List.Perm.append_right _ (List.perm_middle (l₁ := [_, _, _])).symm)
     ·rw [← hE2]
      simp only [envA, look_setA, pushE, hL]
      by_cases e : x = nm
      ·subst e; simp [hL]
      ·simp [e]
    | some t =>
     obtain ⟨tb, tl, tt⟩ := t
     obtain ⟨j, hj1, hj2⟩ := setA_hit hL
     have henv : envA A nm = tl := by simp only [envA, hL]
     rw [henv] at hnmL
     have hrj := rowsA_get hj1
     refine AW.perm (b := .box r9 (.str nm) :: .box rc (.ref b 0) :: .box b (ckBox s2 mb mf) :: .map mb (kvW Stk.av A) gA :: .row tb (tl.map iav ++ tt) :: .map mf (kvW iav s2.F) s2.gF :: (rowsA A).eraseIdx j) ?_ ?_
     ·exact (((((perm_erase hrj).cons _).trans (.swap _ _ _)).cons _).cons _ |>.cons _).cons _
     refine AW.explore [false, false, false, true, true] [13, 14] rfl (by kernel_rfl) (by kernel_rfl) (by kernel_rfl) (by kernel_rfl) ?_
     repeat' (first | refine AQE.hole rfl rfl ?_ | refine AQE.ev rfl rfl rfl rfl ?_ | refine AQE.op rfl (AOp.fr 2) rfl rfl ?_ | refine AQE.op rfl (AOp.ll 0) rfl rfl ?_ | refine AQE.op rfl (AOp.ll 1) rfl rfl ?_ | refine AQE.op rfl (AOp.ll 2) rfl rfl ?_ | refine AQE.early rfl rfl (AOp.lookS_hit 0 52 (g := Stk.av) (ok := false) hL rfl rfl rfl (by kernel_rfl)) rfl rfl ?_ | refine AQE.op rfl (AOp.lit (e := 3) (sz := 1) (by kernel_rfl) rfl rfl rfl (P_one rfl) (by decide)) rfl rfl ?_ | refine AQE.nil ?_ | fail)
     refine AX.one (n := 1) 13 rfl ?_
     refine AXS.step (i := 13) rfl rfl rfl (AOp.append_i (i := 1) (us := tl.map iav) (tl := tt) (v := iav bn) (e := 3) (bytes := 8) (c0 := .int .i64 0) rfl rfl rfl rfl rfl (by kernel_rfl) (by kernel_rfl) (by simp only [lM]; omega) (by simp only [lM]; omega)) ?_ (by rintro _ _ ⟨_, _, e, _⟩; cases e)
     rintro _ _ ⟨b', tl', e, rfl⟩
     injection e with e
     subst e
     dsimp only [sA, sB]
     have hav : AV.osl b' (tl.map iav ++ [iav bn]).length ((tl.map iav ++ [iav bn]).length + tl'.length) = Stk.av ⟨b', tl ++ [bn], tl'⟩ := by simp [Stk.av]
     rw [hav]
     refine AX.one (n := 0) 14 rfl ?_
     refine AXS.step (i := 14) rfl rfl rfl (AOp.mapUpdate (i := 0) (kd := .string) (e := 52) (k := .str nm) (v := Stk.av ⟨b', tl ++ [bn], tl'⟩) rfl rfl rfl rfl (by kernel_rfl) rfl (keysOK_kvW _ _)) ?_ (by rintro _ _ ⟨⟨_, e⟩, _⟩; cases e)
     rintro _ _ ⟨⟨_, e⟩, rfl⟩
     dsimp only [sA, sB]
     refine AX.done [(2, .int .i64 lv), (3, .ref rc 0), (4, .at (.st [.int .i64 k, .int .i64 ar, .str nm, strs vars, strs args, .sl (kids.map GFml.av)])), (9, .ref r9 0)] rfl ?_
     clear e
     rw [mset_kvW, gset_kvW]
     have hrw : rowsA (setA A nm ⟨b', tl ++ [bn], tl'⟩) = (rowsA A).set j (Own.row b' (tl.map iav ++ [iav bn] ++ tl')) := by rw [hj2, rowsA_set]; simp [Stk.row]
     refine AW.perm (b := .box r9 (.str nm) :: .box rc (.ref b 0) :: ckH b mb mf s2 (setA A nm ⟨b', tl ++ [bn], tl'⟩) (gsetA A gA nm)) ?_ (AW.meet [2, 3, 4, 9] ⟨_, _, rfl, rfl, fun x => ?_⟩)
     ·unfold ckH
      rw [hrw]
      have hp := perm_set (Own.row b' (tl.map iav ++ [iav bn] ++ tl')) hrj
      exact perm7 hp
     ·rw [← hE2]
      simp only [envA, look_setA, pushE, hL]
      by_cases e : x = nm
      ·subst e; simp [hL]
      ·simp [e]
   rintro af ah ⟨A2, gA2, rfl, rfl, hA2⟩
   repeat' (first | (refine xS 17 1 ?_; refine AL.defer rfl rfl rfl ?_; refine AL.nil ?_) | fail)
   have hret0 : ∀ (s3 : CkS) (A3 : List (ByteArray × Stk)) (g3 : MG), (∀ x, envA A3 x = env2 x) → R = s3 → TriD Tryz.prog 171 [.ref rc 0, .ref r9 0] (.box r9 (.str nm) :: .box rc (.ref b 0) :: ckH b mb mf s3 A3 g3) .returning (fun u' h => settle u' = .returning ∧ ∃ h', h'.Sublist h ∧ CkPost b mb mf (envA A) R (.ret (.tup [])) h') := by
    intro s3 A3 g3 h1 h2
    have h3 := h1 nm
    rw [← hE2] at h3
    simp only [pushE, if_true] at h3
    cases hL : lookA A3 nm with
    | none => simp only [envA, hL] at h3; simp at h3
    | some t =>
     simp only [envA, hL] at h3
     refine (walk_defer b mb mf rc r9 s3 A3 g3 nm t hL (envA A nm) bn h3 (by omega)).mono ?_
     rintro u' h ⟨rfl, A', h4, rfl⟩
     refine ⟨rfl, _, (List.sublist_cons_self _ _).trans (List.sublist_cons_self _ _), rfl, A', g3, fun x => ?_, by rw [h2]⟩
     rw [h4, h1, ← hE2]
     simp only [pushE]
     by_cases e : x = nm
     ·rw [if_pos e, e]
     ·rw [if_neg e, if_neg e]
   have hret : ∀ (R0 : Rg) (s3 : CkS) (A3 : List (ByteArray × Stk)) (g3 : MG), (∀ x, envA A3 x = env2 x) → R = s3 → ∀ ks af, AW (CofD Tryz.prog Tryz.f147 162 Fr R0 w0 (CkPost b mb mf (envA A) R)) [{ target := .fn (.func 171) #[.pointer (some ⟨rc, 0, none⟩), .pointer (some ⟨r9, 0, none⟩)], args := #[] }] (.c .ret :: ks) af (.box r9 (.str nm) :: .box rc (.ref b 0) :: ckH b mb mf s3 A3 g3) :=
    fun R0 s3 A3 g3 h1 h2 ks af => AW.retD1n rfl rfl (hret0 s3 A3 g3 h1 h2)
   have hdone : ∀ (R0 : Rg) (s3 : CkS) (A3 : List (ByteArray × Stk)) (g3 : MG), (∀ x, envA A3 x = env2 x) → R = s3 → ∀ af, AW (CofD Tryz.prog Tryz.f147 162 Fr R0 w0 (CkPost b mb mf (envA A) R)) [{ target := .fn (.func 171) #[.pointer (some ⟨rc, 0, none⟩), .pointer (some ⟨r9, 0, none⟩)], args := #[] }] [] af (.box r9 (.str nm) :: .box rc (.ref b 0) :: ckH b mb mf s3 A3 g3) :=
    fun R0 s3 A3 g3 h1 h2 af => AW.doneD1n rfl rfl (hret0 s3 A3 g3 h1 h2)
   have hlen2 : ∀ x, ((env2 x).length : Int) ≤ lv + 1 := fun x => by
    have := hlen x
    rw [← hE2]
    simp only [pushE]
    split
    ·simp only [lA, List.length_singleton]; omega
    ·omega
   clear hret0 hBb hB
   repeat' (first | refine AW.re 18 4 ?_ | refine AW.go ?_ | fail)
   refine AW.prune [2, 3, 4, 9, 130, 131, 132] (AW.loop (fun mz af h => ∃ (i : Nat) (s3 : CkS) (A3 : List (ByteArray × Stk)) (g3 : MG), i ≤ kids.length ∧ mz = kids.length - i ∧ af = [(2, .int .i64 lv), (3, .ref rc 0), (4, .at (.st [.int .i64 k, .int .i64 ar, .str nm, strs vars, strs args, .sl (kids.map GFml.av)])), (9, .ref r9 0), (130, .sl (kids.map GFml.av)), (131, .int .i64 (kids.map GFml.av).length), (132, .int .i64 i)] ∧ h = .box r9 (.str nm) :: .box rc (.ref b 0) :: ckH b mb mf s3 A3 g3 ∧ (chkL kids (lv + 1) env2 s2 = chkL (kids.drop i) (lv + 1) env2 s3 ∧ (s3.bad = false ∨ (kids = [] ∧ k = 0)) ∧ 0 ≤ s3.n ∧ s3.n ≤ 4000 ∧ ∀ x, envA A3 x = env2 x)) kids.length ⟨0, s2, A2, gA2, Nat.zero_le _, rfl, rfl, rfl, ⟨rfl, hsb, hs0, hs1, hA2⟩⟩ ?_)
   rintro mz af h ⟨i, s3, A3, g3, hi, rfl, rfl, rfl, he⟩
   refine AW.seq ?_
   by_cases hlt : i < kids.length
   ·obtain ⟨he, hb3, g1, g2, hA3⟩ := he
    obtain ⟨x, hx⟩ := get_lt hlt
    have hx' : (kids.map GFml.av)[((i : Nat) : Int).toNat]? = some (x.st) := GFml.get hx
    have hxm := lG hx
    have hnx := ndFs_mem hxm
    have hb3' : s3.bad = false := hb3.resolve_right (fun h => by rw [h.1] at hlt; simp at hlt)
    have henv3 : envA A3 = env2 := funext hA3
    have hc := (ih (ndF x) (by omega) x (lv + 1) A3 g3 s3 b mb mf (Nat.le_refl _) (q7 x hxm) (by omega) (by omega) hb3' g1 g2 (by rw [henv3]; exact hlen2)).front [.box r9 (.str nm), .box rc (.ref b 0)]
    rw [henv3] at hc
    have hcn := chk_n x (lv + 1) env2 s3 hb3' g2
    rw [drop_cons hx, chkL] at he
    generalize chk x (lv + 1) env2 s3 = s4 at *
    repeat' (first | refine AW.re 19 1 ?_ | (refine AW.r 20 ?_; refine AL.d (iX hx') ?_; refine AL.d AOp.la ?_; refine AL.alloc_store (by kernel_rfl) rfl rfl rfl rfl ?_; refine AL.nil ?_) | (refine AW.r 21 ?_; refine AL.d (AOp.ll 1) ?_; refine AL.d AOp.la ?_; refine AL.es 1 ?_; refine AL.d AOp.ad ?_; (refine AL.callQ rfl rfl hc rfl ?_ ?_; rotate_left; rintro _ _ ⟨_, ⟨e, _⟩, _⟩; cases e; rintro _ _ ⟨_, ⟨e, A4, g4, hA4, rfl⟩, rfl⟩; injection e with e; subst e) <;> refine AL.nil ?_) | refine AW.jj (fun hb => ?_) (fun hb => ?_) | fail)
    all_goals try (exfalso; simp only [dT, dF, lM] at *; omega)
    refine AW.perm (b := .box r9 (.str nm) :: .box rc (.ref b 0) :: ckH b mb mf s4 A4 g4) (List.perm_append_comm (l₁ := ckH b mb mf s4 A4 g4) (l₂ := [_, _])) ?_
    repeat' (first | (refine AW.r 22 ?_; refine AL.d (AOp.ll 1) ?_; refine AL.es 1 ?_; refine AL.d (AOp.fr 4) ?_; refine AL.d (AOp.ll 2) ?_; refine AL.nil ?_) | refine AW.jj (fun hb => ?_) (fun hb => ?_) | refine AW.go ?_ | fail)
    ·rw [hb, cond_true] at he
     exact hret _ s4 A4 g4 hA4 (by rw [hRf, he, fin, hb, cond_true]) _ _
    ·rw [hb, cond_false] at he
     repeat' (first | (refine AW.r 23 ?_; refine AL.d AOp.ad ?_; refine xN 1 ?_) | fail)
     refine AW.again_keep (kids.length - (i + 1)) [2, 3, 4, 9, 130, 131, 132] (by omega) ⟨i + 1, s4, A4, g4, hlt, rfl, rfl, rfl, ?_⟩
     exact ⟨he, .inl hb, by omega, (hcn.2 hb).1, hA4⟩
   ·obtain ⟨he, hb3, g1, g2, hA3⟩ := he
    rw [List.drop_eq_nil_of_le (by omega), chkL] at he
    rw [he] at hRf
    repeat' (first | refine AW.re 19 1 ?_ | refine AW.jj (fun hb => ?_) (fun hb => ?_) | refine AW.go ?_ | fail)
    all_goals try (exfalso; simp only [dT, dF, lM] at *; omega)
    cases k8 : (k == 8) with
    | true =>
     have k80 : ¬ k = 0 := fun h => by rw [h] at k8; cases k8
     have hb3' : s3.bad = false := hb3.resolve_right (fun h => k80 h.2)
     have hsb' : s2.bad = false := hsb.resolve_right (fun h => k80 h.2)
     have hk1 := shaped_kid hsh (.inl (by simpa using k8))
     have hshs := ((chkL_n kids (lv + 1) env2 s2 hsb' hs1).2 (by rw [he]; exact hb3')).2
     obtain ⟨y, rfl⟩ : ∃ y, kids = [y] := by
      match kids, hk1 with
      | [y], _ => exact ⟨y, rfl⟩
     have hy : ([y].map GFml.av)[((0 : Int)).toNat]? = some y.st := by simp [GFml.av_eq]
     have hpos := f_positive nm _ y true (Nat.le_refl _) (q7 y (by simp)) (shsFs_mem hshs (by simp))
     have hf : R = { s3 with bad := !ps2 nm y true } := by rw [hRf, fin, hb3', cond_false, k8, psH, Bool.true_and]
     generalize ps2 nm y true = Y at *
     obtain rfl : k = 8 := by simpa using k8
     repeat' (first | (refine AW.dq 24 ?_; refine AQ.p rfl AOp.fa ?_; refine AQ.p rfl AOp.la ?_; refine AQ.es 2 ?_; refine AQ.gp rfl AOp.fa ?_; refine AQ.gp rfl AOp.la ?_; refine AQ.gp rfl (iX hy) ?_; refine AQ.gp rfl AOp.la ?_; refine AQ.gp rfl AOp.fa ?_; refine AQ.gp rfl AOp.la ?_; refine AQ.gp rfl (AOp.call rfl rfl (hpos.pure _)) ?_; refine AQ.es 2 ?_; refine AQ.nil ?_) | (refine AW.r 25 ?_; refine AL.d (AOp.ll 1) ?_; refine AL.es 1 ?_; refine AL.d (AOp.fr 4) ?_; refine AL.sl 2 ?_; refine AL.nil ?_) | refine AW.jj (fun hb => ?_) (fun hb => ?_) | refine AW.go ?_ | fail)
     ·exact hdone _ { s3 with bad := true } A3 g3 hA3 (by rw [hf, hb]) _
     ·refine AW.frame_eq rfl (show _ = .box r9 (.str nm) :: .box rc (.ref b 0) :: ckH b mb mf { s3 with bad := false } A3 g3 from by rw [← hb3']) ?_
      exact hdone _ { s3 with bad := false } A3 g3 hA3 (by rw [hf, hb]) _
    | false =>
     have hf : R = s3 := by
      rw [hRf, fin, k8, Bool.false_and]
      cases hq : s3.bad with
      | true => rfl
      | false => obtain ⟨v1, v2, v3, v4, v5⟩ := s3; simp only at hq; subst hq; rfl
     repeat' (first | (refine AW.dq 24 ?_; refine AQ.p rfl AOp.fa ?_; refine AQ.p rfl AOp.la ?_; refine AQ.es 2 ?_; ((refine AQ.x (fun hb => ?_) (fun hb => ?_) <;> first | refine AQ.gp rfl AOp.fa ?_ | refine AQ.k ?_)) <;> (first | refine AQ.gp rfl AOp.la ?_ | refine AQ.k ?_) <;> (first | (exfalso; simp only [dT, dF, lM, bne_iff_ne, ne_eq, bne_eq_false_iff_eq, beq_iff_eq, beq_eq_false_iff_ne] at *; omega) | refine AQ.k ?_) <;> (refine AQ.k ?_) <;> (refine AQ.k ?_) <;> (refine AQ.k ?_) <;> (refine AQ.k ?_) <;> refine AQ.es 2 ?_ <;> refine AQ.nil ?_) | refine AW.jf ?_ | refine AW.go ?_ | fail)
     all_goals try (exfalso; rw [k8] at hb; exact Bool.noConfusion hb)
     exact hdone _ s3 A3 g3 hA3 hf _
theorem f_checked (f : GFml) (ho : f.Ok) : Tri Tryz.prog 96 [f.st] [] (fun x h => ∃ b mb mf A gA, x = .ret (.ref b 0) ∧ h = ckH b mb mf (chk f 1 (fun _ => []) chk0) A gA) := by
 have hw := fun b mb mf => chk_walk _ f 1 [] ⟨[], 0⟩ chk0 b mb mf (Nat.le_refl _) ho (by omega) (by omega) rfl (by decide) (by decide) (fun k => by simp [envA, lookA])
 have he : envA [] = fun _ => [] := by funext k; rfl
 rw [he] at hw
 generalize chk f 1 (fun _ => []) chk0 = R at *
 obtain ⟨k, ar, nm, vars, args, kids⟩ := f
 refine Tri.enter 12 Tryz.func96 rfl rfl rfl rfl fun Fr w0 => ?_
 repeat' (first | (refine AW.r 0 ?_; (refine AL.d (AOp.box_ro (v := .st [.int .i64 k, .int .i64 ar, .str nm, strs vars, strs args, .sl (kids.map GFml.av)]) rfl rfl) ?_) <;> refine AL.es 1 ?_ <;> refine AL.nil ?_) | refine AW.go ?_ | fail)
 repeat' (first | (refine AW.r 1 ?_; refine AL.makeMap rfl fun bm => ?_; refine AL.makeMap rfl fun bm => ?_; refine AL.d (AOp.build (pl := [(0, 1), (1, 1), (2, 1), (3, 1), (4, 1)]) (z := .st [.int .i64 0, .int .i64 0, .val (.map none), .val (.map none), .bool false]) (by kernel_rfl) rfl rfl rfl) ?_ <;> refine AL.box rfl rfl rfl fun b => ?_ <;> refine AL.es 1 ?_ <;> refine AL.nil ?_) | refine AW.go ?_ | fail)
 rename_i mb
 refine AW.perm (b := ckH b mb bm chk0 [] ⟨[], 0⟩) ((List.Perm.swap _ _ _).cons _) ?_
 have hw1 := hw b mb bm
 repeat' (first | (refine xS 2 2 ?_; (refine AL.callQ rfl rfl hw1 rfl ?_ ?_; rotate_left; rintro _ _ ⟨e, _⟩; cases e; rintro _ _ ⟨e, A4, g4, hA4, rfl⟩; injection e with e; subst e) <;> refine AL.nil ?_) | refine AW.go ?_ | fail)
 repeat' (first | refine AW.re 3 2 ?_ | fail)
 exact AW.retv rfl ⟨_, _, _, _, _, rfl, rfl⟩
theorem f_Valid (f : GFml) (ho : f.Ok) : Tri Tryz.prog 50 [f.st] [] (D (.bool (validF f)) []) := by
 have hc := f_checked f ho
 have hv := chk_valid f
 generalize chk f 1 (fun _ => []) chk0 = R at *
 generalize validF f = V at *
 obtain ⟨k, ar, nm, vars, args, kids⟩ := f
 refine Tri.enter 9 Tryz.func50 rfl rfl rfl rfl fun Fr w0 => ?_
 repeat' (first | (refine AW.r 0 ?_; (refine AL.d (AOp.box_ro (v := .st [.int .i64 k, .int .i64 ar, .str nm, strs vars, strs args, .sl (kids.map GFml.av)]) rfl rfl) ?_) <;> refine AL.es 1 ?_ <;> refine AL.nil ?_) | refine AW.go ?_ | fail)
 repeat' (first | (refine AW.r 1 ?_; refine AL.d AOp.la ?_; (refine AL.callQ rfl rfl hc rfl ?_ ?_; rotate_left; rintro _ _ ⟨_, _, _, _, _, e, _⟩; cases e; rintro _ _ ⟨b, mb, mf, A, g, e, rfl⟩; injection e with e; subst e) <;> refine AL.es 1 ?_ <;> (refine AL.d (AOp.fr 4) ?_) <;> (refine AL.d (AOp.ll 0) ?_) <;> refine AL.es 2 ?_ <;> refine AL.nil ?_) | fail)
 exact AW.ret_drop rfl (List.nil_sublist _) ⟨by rw [hv, Bool.not_not], rfl⟩
theorem Clone_str (xs : List ByteArray) (hl : xs.length ≤ 8796093021952) : Tri Tryz.prog 148 [strs xs] [] (D (strs xs) []) := by
 refine Tri.enter 8 Tryz.func148 rfl rfl rfl rfl fun Fr w0 => ?_
 repeat' (first | refine AW.re 0 1 ?_ | refine AW.go ?_ | fail)
 repeat' (first | (refine xS 1 1 ?_; refine AL.slice_nil (xs := xs.map AV.str) rfl (by kernel_rfl) rfl fun B hB => ?_; refine AL.nil ?_) | refine AW.jj (fun hb => ?_) (fun hb => ?_) | refine AW.go ?_ | fail)
 ·have hx : xs = [] := by
   cases xs with
   | nil => rfl
   | cons y l => have h := hB (by simp); rw [h] at hb; cases hb
  subst hx
  repeat' (first | refine AW.re 2 1 ?_ | fail)
  exact AW.retv rfl ⟨rfl, rfl⟩
 ·repeat' (first | (refine AW.r 3 ?_; refine AL.lit_own (e := 9) (sz := 1) (by kernel_rfl) rfl rfl rfl P_nil (by decide) rfl fun b0 => ?_; refine AL.es 1 ?_; refine AL.append (i := 0) (e := 9) (sz := 1) (bytes := 16) rfl rfl rfl rfl (by kernel_rfl) (by kernel_rfl) (by repeat' (exact P_nil)) (by repeat' (exact P_map fun _ => rfl)) (ok_all (by repeat' (exact P_map fun _ => rfl))) (by (try simp only [lA, lM, List.length_take, List.length_drop, List.length_cons, List.length_nil, List.length_replicate]); omega) (by (try simp only [lA, lM, List.length_take, List.length_drop, List.length_cons, List.length_nil, List.length_replicate]); omega) rfl fun b' c' => ?_ <;> refine AL.es 1 ?_ <;> refine AL.nil ?_) | fail)
  refine AW.as_sl 2 rfl ?_
  exact AW.ret_drop rfl (List.nil_sublist _) ⟨rfl, rfl⟩
theorem n_with (f : GFml) (ho : f.Ok) (kids : List GFml) : Tri Tryz.prog 99 [f.st, .sl (kids.map GFml.av)] [] (D ({ f with Kids := kids } : GFml).st []) := by
 obtain ⟨⟨_, _, _, h4, h5⟩, h6, h7⟩ := ho
 have hv := Clone_str f.Vars (by have := h4.1; omega)
 have ha := Clone_str f.Args (by have := h5.1; omega)
 obtain ⟨k, ar, nm, vars, args, kids0⟩ := f
 simp only at *
 refine Tri.enter 16 Tryz.func99 rfl rfl rfl rfl fun Fr w0 => ?_
 repeat' (first | (refine AW.r 0 ?_; refine AL.box rfl rfl rfl fun b => ?_; refine AL.alloc_z (t := 25) (.st [.int .i64 0, .int .i64 0, .str empB, .sl [], .sl [], .sl []]) (by kernel_rfl) rfl rfl fun r => ?_; refine AL.nil ?_) | refine AW.go ?_ | fail)
 repeat' (first | (refine AW.ex 1 [false, true] [8, 10, 12] ?_; refine AQE.p rfl (AOp.fr 3) ?_; refine AQE.pe rfl (AOp.ll 0) ?_; refine AQE.p rfl (AOp.call rfl rfl (hv.pure _)) ?_; refine AQE.p rfl (AOp.fr 4) ?_; refine AQE.pe rfl (AOp.ll 0) ?_; refine AQE.p rfl (AOp.call rfl rfl (ha.pure _)) ?_; refine AQE.e ?_; refine AQE.p rfl (AOp.fr 3) ?_; refine AQE.hl ?_; refine AQE.p rfl (AOp.fr 4) ?_; refine AQE.hl ?_; refine AQE.p rfl (AOp.fr 5) ?_; refine AQE.hl ?_; refine AQE.nil ?_; refine AX.o (n := 2) 8 ?_; refine AXO.sl 0 fun _ => ?_; try dsimp only [sA, sB, sC, sD] <;> refine AX.o (n := 1) 10 ?_ <;> (refine AXO.sl 0 fun _ => ?_) <;> try dsimp only [sA, sB, sC, sD] <;> refine AX.o (n := 0) 12 ?_ <;> (refine AXO.sl 0 fun _ => ?_) <;> try dsimp only [sA, sB, sC, sD] <;> refine AX.done_keep [0, 2, 4, 15, 25] ?_) | refine AW.go ?_ | fail)
 refine AW.prune [2, 4] ?_
 repeat' (first | (refine AW.r 2 ?_; refine AL.d (AOp.lw 0) ?_; refine AL.sl 1 ?_; refine AL.nil ?_) | fail)
 exact AW.retc (.cell 1 rfl rfl (by kernel_rfl) .nil) (List.nil_sublist _) ⟨rfl, rfl⟩
theorem n_each (f : GFml) (ho : f.Ok) (fid : FuncId) (caps : List AV) (g : GFml → GFml) (hf : ∀ x ∈ f.Kids, Tri Tryz.prog fid (x.st :: caps) [] (D (g x).st [])) :
  Tri Tryz.prog 98 [f.st, .fn fid caps] [] (D ({ f with Kids := f.Kids.map g } : GFml).st []) := by
 have hw := fun kids => n_with f ho kids
 obtain ⟨_, h6, h7⟩ := ho
 obtain ⟨k, ar, nm, vars, args, kids⟩ := f
 simp only at *
 refine Tri.enter 25 Tryz.func98 rfl rfl rfl rfl fun Fr w0 => ?_
 repeat' (first | (refine AW.r 0 ?_; (refine AL.d (AOp.box_ro (v := .st [.int .i64 k, .int .i64 ar, .str nm, strs vars, strs args, .sl (kids.map GFml.av)]) rfl rfl) ?_) <;> (refine AL.alloc_z (t := 25) (.st [.int .i64 0, .int .i64 0, .str empB, .sl [], .sl [], .sl []]) (by kernel_rfl) rfl rfl fun r => ?_) <;> refine AL.nil ?_) | (refine AW.r 1 ?_; refine AL.d AOp.assign_nil ?_; refine AL.nil ?_) | (refine xS 2 3 ?_; refine AL.e ?_; refine AL.nil ?_) | refine AW.go ?_ | fail)
 refine AW.own_nil 6 ?_
 refine AW.prune [1, 2, 4, 5, 9, 10, 11] (AW.loop (fun mz af h => ∃ (i : Nat) (o : List GFml) (tt : Option Nat) (cc : Nat), i ≤ kids.length ∧ mz = kids.length - i ∧ af = [(1, .fn fid caps), (2, .at (.st [.int .i64 k, .int .i64 ar, .str nm, strs vars, strs args, .sl (kids.map GFml.av)])), (4, .ref r 0), (5, .slt (o.map GFml.av) tt cc), (9, .sl (kids.map GFml.av)), (10, .int .i64 (kids.map GFml.av).length), (11, .int .i64 i)] ∧ h = [.tail tt (o.map GFml.av).length cc 6, .box r (.st [.int .i64 0, .int .i64 0, .str empB, .sl [], .sl [], .sl []])] ∧ o = (kids.take i).map g) kids.length ⟨0, [], none, 0, Nat.zero_le _, rfl, rfl, rfl, by simp⟩ ?_)
 rintro mz af h ⟨i, o, tt, cc, hi, rfl, rfl, rfl, he⟩
 refine AW.seq ?_
 by_cases hlt : i < kids.length
 ·obtain ⟨x, hx⟩ := get_lt hlt
  have hx' : (kids.map GFml.av)[((i : Nat) : Int).toNat]? = some (x.st) := GFml.get hx
  have hc := hf x (lG hx)
  have hol : o.length ≤ 1353245080300 := by rw [he]; simp; omega
  have hm : (o ++ [g x]).map GFml.av = o.map GFml.av ++ [(g x).st] := by simp [GFml.av_eq]
  repeat' (first | refine AW.re 3 1 ?_ | (refine AW.r 4 ?_; refine AL.d (iX hx') ?_; refine AL.es 1 ?_; refine AL.alloc_store (by kernel_rfl) rfl rfl rfl rfl ?_; refine AL.nil ?_) | refine AW.jj (fun hb => ?_) (fun hb => ?_) | refine AW.go ?_ | fail)
  all_goals try (exfalso; simp only [dT, dF, lM] at *; omega)
  repeat' (first | (refine xS 5 3 ?_; refine AL.d (AOp.call rfl rfl (hc.pure _)) ?_; refine AL.d (AOp.lit (e := 25) (sz := 6) (by kernel_rfl) rfl rfl rfl (P_one rfl) (by decide)) ?_; refine AL.append (i := 0) (xs := o.map GFml.av) (e := 25) (sz := 6) (bytes := 104) rfl rfl rfl rfl (by kernel_rfl) (by kernel_rfl) (P_map GFml.size_av) (P_one rfl) rfl (by simp only [lM]; simp; omega) (by simp only [lM]; simp; omega) rfl fun b' c' => ?_ <;> refine AL.es 1 ?_ <;> refine AL.nil ?_) | refine AW.go ?_ | fail)
  refine AW.frame_eq rfl (show _ = [Own.tail b' ((o ++ [g x]).map GFml.av).length c' 6, .box r (.st [.int .i64 0, .int .i64 0, .str empB, .sl [], .sl [], .sl []])] from by rw [hm]; rfl) ?_
  repeat' (first | (refine AW.r 6 ?_; refine AL.d AOp.ad ?_; refine xN 1 ?_) | fail)
  rw [← hm]
  refine AW.again_keep (kids.length - (i + 1)) [1, 2, 4, 5, 9, 10, 11] (by omega) ⟨i + 1, o ++ [g x], b', c', hlt, rfl, rfl, rfl, ?_⟩
  rw [he, List.take_add_one, hx]; simp
 ·have ho2 : o = kids.map g := by rw [he, List.take_of_length_le (by omega)]
  subst ho2
  have hw1 := hw (kids.map g)
  refine AW.as_sl 5 rfl ?_
  repeat' (first | refine AW.re 3 1 ?_ | (refine AW.r 7 ?_; refine AL.d AOp.la ?_; refine AL.es 1 ?_; refine AL.d (AOp.call rfl rfl (hw1.pure _)) ?_; refine AL.sl 1 ?_; refine AL.nil ?_) | refine AW.jj (fun hb => ?_) (fun hb => ?_) | refine AW.go ?_ | fail)
  all_goals try (exfalso; simp only [dT, dF, lM] at *; omega)
  exact AW.retc (.cell 1 rfl rfl (by kernel_rfl) .nil) (List.nil_sublist _) ⟨rfl, rfl⟩
def zF : AV := .st [.int .i64 0, .int .i64 0, .str empB, .sl [], .sl [], .sl []]
def kv4 : List (AV × AV) := [(.int .i64 4, .int .i64 5), (.int .i64 5, .int .i64 4), (.int .i64 6, .int .i64 7), (.int .i64 7, .int .i64 6)]
theorem kv4_miss {k : Int} (h : qk k = false) : mfind (.int .i64 k) kv4 0 = none := by
 simp only [qk, Bool.or_eq_false_iff, beq_eq_false_iff_ne, ne_eq] at h
 obtain ⟨⟨⟨h4, h5⟩, h6⟩, h7⟩ := h
 simp [mfind, kv4, keq, h4, h5, h6, h7]
theorem kv4_hit {k : Int} (h : qk k = true) : ∃ j, mfind (.int .i64 k) kv4 0 = some (j, .int .i64 (oth k)) := by
 simp only [qk, Bool.or_eq_true, beq_iff_eq] at h
 have : k = 4 ∨ k = 5 ∨ k = 6 ∨ k = 7 := by omega
 rcases this with rfl | rfl | rfl | rfl <;> exact ⟨_, rfl⟩
theorem n_nn : ∀ (N : Nat) (f : GFml), ndF f ≤ N → f.Ok → shsF f = true → Tri Tryz.prog 52 [f.st] [] (D (nnF f false).st []) ∧ Tri Tryz.prog 97 [f.st] [] (D (nnF f true).st []) := by
 intro N
 induction N using Nat.strongRecOn with
 | _ N ih =>
  intro f hN ho hsh
  have hnd := ndF_eq f
  rw [shsF_eq, bA] at hsh
  have hk3 := shaped_not1 hsh.2
  have hE0 := n_each f ho 52 [] (fun x => nnF x false) fun x hx => (ih (ndF x) (by have := ndFs_mem hx; omega) x (Nat.le_refl _) (by obtain ⟨_, _, h⟩ := ho; exact h x hx) (shsFs_mem hsh.1 hx)).1
  have hE1 := n_each f ho 97 [] (fun x => nnF x true) fun x hx => (ih (ndF x) (by have := ndFs_mem hx; omega) x (Nat.le_refl _) (by obtain ⟨_, _, h⟩ := ho; exact h x hx) (shsFs_mem hsh.1 hx)).2
  have hI := fun x (hx : x ∈ f.Kids) => ih (ndF x) (by have := ndFs_mem hx; omega) x (Nat.le_refl _) (by obtain ⟨_, _, h⟩ := ho; exact h x hx) (shsFs_mem hsh.1 hx)
  have hmap0 := nnL_map false f.Kids
  have hmap1 := nnL_map true f.Kids
  obtain ⟨k, ar, nm, vars, args, kids⟩ := f
  simp only at *
  rw [← hmap0] at hE0
  rw [← hmap1] at hE1
  have hA : Tri Tryz.prog 52 [(⟨k, ar, nm, vars, args, kids⟩ : GFml).st] [] (D (nnF ⟨k, ar, nm, vars, args, kids⟩ false).st []) := by
   rw [nnF]
   cases k3 : k == 3 with
   | true =>
    obtain ⟨h1, _⟩ := hk3 (by simpa using k3)
    obtain rfl : k = 3 := by simpa using k3
    obtain ⟨y, rfl⟩ : ∃ y, kids = [y] := by
     match kids, h1 with
     | [y], _ => exact ⟨y, rfl⟩
    have hy : ([y].map GFml.av)[((0 : Int)).toNat]? = some y.st := by simp [GFml.av_eq]
    have hc := (hI y (by simp)).2
    rw [cond_true, nnH, Bool.not_false]
    refine Tri.enter 13 Tryz.func52 rfl rfl rfl rfl fun Fr w0 => ?_
    repeat' (first | (refine AW.r 0 ?_; (refine AL.d (AOp.box_ro (v := .st [.int .i64 3, .int .i64 ar, .str nm, strs vars, strs args, .sl ([y].map GFml.av)]) rfl rfl) ?_) <;> refine AL.alloc_z (t := 25) zF (by kernel_rfl) rfl rfl fun r => ?_ <;> refine AL.nil ?_) | (refine AW.r 1 ?_; refine AL.d AOp.fa ?_; refine AL.d AOp.la ?_; refine xN 1 ?_) | (refine AW.r 2 ?_; refine AL.d AOp.fa ?_; refine AL.d AOp.la ?_; refine AL.d (iX hy) ?_; refine AL.d AOp.la ?_; refine AL.d (AOp.call rfl rfl (hc.pure _)) ?_; refine AL.sl 0 ?_; refine AL.nil ?_) | refine AW.jt ?_ | fail)
    exact AW.retc (.cell 0 rfl rfl (by kernel_rfl) .nil) (List.nil_sublist _) ⟨rfl, rfl⟩
   | false =>
    rw [cond_false]
    have hr : (bif qk k then (⟨bif false then oth k else k, ar, nm, vars, args, nnL kids false⟩ : GFml) else bif false then ⟨3, 0, empB, [], [], [⟨k, ar, nm, vars, args, nnL kids false⟩]⟩ else ⟨k, ar, nm, vars, args, nnL kids false⟩) = ⟨k, ar, nm, vars, args, nnL kids false⟩ := by cases qk k <;> rfl
    rw [hr]
    refine Tri.enter 13 Tryz.func52 rfl rfl rfl rfl fun Fr w0 => ?_
    repeat' (first | (refine AW.r 0 ?_; (refine AL.d (AOp.box_ro (v := .st [.int .i64 k, .int .i64 ar, .str nm, strs vars, strs args, .sl (kids.map GFml.av)]) rfl rfl) ?_) <;> refine AL.alloc_z (t := 25) zF (by kernel_rfl) rfl rfl fun r => ?_ <;> refine AL.nil ?_) | (refine AW.r 1 ?_; refine AL.d AOp.fa ?_; refine AL.d AOp.la ?_; refine xN 1 ?_) | (refine AW.r 3 ?_; refine AL.d AOp.la ?_; refine AL.d (AOp.call rfl rfl (hE0.pure _)) ?_; refine AL.sl 0 ?_; refine AL.nil ?_) | refine AW.jj (fun hb => ?_) (fun hb => ?_) | refine AW.go ?_ | fail)
    all_goals try (exfalso; rw [k3] at hb; exact Bool.noConfusion hb)
    exact AW.retc (.cell 0 rfl rfl (by kernel_rfl) .nil) (List.nil_sublist _) ⟨rfl, rfl⟩
  refine ⟨hA, ?_⟩
  rw [nnF] at hA ⊢
  cases k3 : k == 3 with
  | true =>
   obtain ⟨h1, _⟩ := hk3 (by simpa using k3)
   obtain rfl : k = 3 := by simpa using k3
   obtain ⟨y, rfl⟩ : ∃ y, kids = [y] := by
    match kids, h1 with
    | [y], _ => exact ⟨y, rfl⟩
   have hy : ([y].map GFml.av)[((0 : Int)).toNat]? = some y.st := by simp [GFml.av_eq]
   have hc := (hI y (by simp)).1
   rw [cond_true, nnH, Bool.not_true]
   refine Tri.enter 34 Tryz.func97 rfl rfl rfl rfl fun Fr w0 => ?_
   repeat' (first | (refine AW.r 0 ?_; (refine AL.d (AOp.box_ro (v := .st [.int .i64 3, .int .i64 ar, .str nm, strs vars, strs args, .sl ([y].map GFml.av)]) rfl rfl) ?_) <;> refine AL.alloc_z (t := 25) zF (by kernel_rfl) rfl rfl fun r => ?_ <;> refine AL.nil ?_) | (refine AW.r 1 ?_; refine AL.makeMap rfl fun bm => ?_; refine AL.insert (i := 0) (kd := .int .i64) (e := 3) rfl rfl rfl rfl (by kernel_rfl) rfl rfl ?_; refine AL.insert (i := 0) (kd := .int .i64) (e := 3) rfl rfl rfl rfl (by kernel_rfl) rfl rfl ?_; refine AL.insert (i := 0) (kd := .int .i64) (e := 3) rfl rfl rfl rfl (by kernel_rfl) rfl rfl ?_; refine AL.insert (i := 0) (kd := .int .i64) (e := 3) rfl rfl rfl rfl (by kernel_rfl) rfl rfl ?_; refine xN 2 ?_) | (refine AW.r 2 ?_; refine AL.d AOp.fa ?_; refine AL.d AOp.la ?_; refine xN 1 ?_) | (refine AW.r 3 ?_; refine AL.d AOp.fa ?_; refine AL.d AOp.la ?_; refine AL.d (iX hy) ?_; refine AL.d AOp.la ?_; refine AL.d (AOp.call rfl rfl (hc.pure _)) ?_; refine AL.sl 1 ?_; refine AL.nil ?_) | refine AW.jt ?_ | fail)
   exact AW.retc (.cell 1 rfl rfl (by kernel_rfl) .nil) (List.nil_sublist _) ⟨rfl, rfl⟩
  | false =>
   rw [cond_false]
   rw [k3, cond_false] at hA
   cases hq : qk k with
   | true =>
    obtain ⟨j, hj⟩ := kv4_hit hq
    rw [cond_true, cond_true]
    refine Tri.enter 34 Tryz.func97 rfl rfl rfl rfl fun Fr w0 => ?_
    repeat' (first | (refine AW.r 0 ?_; (refine AL.d (AOp.box_ro (v := .st [.int .i64 k, .int .i64 ar, .str nm, strs vars, strs args, .sl (kids.map GFml.av)]) rfl rfl) ?_) <;> refine AL.alloc_z (t := 25) zF (by kernel_rfl) rfl rfl fun r => ?_ <;> refine AL.nil ?_) | (refine AW.r 1 ?_; refine AL.makeMap rfl fun bm => ?_; refine AL.insert (i := 0) (kd := .int .i64) (e := 3) rfl rfl rfl rfl (by kernel_rfl) rfl rfl ?_; refine AL.insert (i := 0) (kd := .int .i64) (e := 3) rfl rfl rfl rfl (by kernel_rfl) rfl rfl ?_; refine AL.insert (i := 0) (kd := .int .i64) (e := 3) rfl rfl rfl rfl (by kernel_rfl) rfl rfl ?_; refine AL.insert (i := 0) (kd := .int .i64) (e := 3) rfl rfl rfl rfl (by kernel_rfl) rfl rfl ?_; refine xN 2 ?_) | (refine AW.r 2 ?_; refine AL.d AOp.fa ?_; refine AL.d AOp.la ?_; refine xN 1 ?_) | refine AW.jj (fun hb => ?_) (fun hb => ?_) | refine AW.go ?_ | fail)
    all_goals try (exfalso; rw [k3] at hb; exact Bool.noConfusion hb)
    repeat' (first | (refine xS 4 1 ?_; refine AL.d AOp.fa ?_; refine AL.d AOp.la ?_; refine AL.d (AOp.lookup_hit (i := 0) (kd := .int .i64) (e := 3) (ok := true) rfl rfl rfl (by kernel_rfl) rfl rfl hj) ?_; refine xN 5 ?_) | refine AW.re 5 1 ?_ | (refine AW.r 6 ?_; refine AL.d AOp.la ?_; refine AL.d (AOp.call rfl rfl (hE1.pure _)) ?_; refine AL.alloc_z (t := 25) zF (by kernel_rfl) rfl rfl fun r2 => ?_; refine AL.sl 0 ?_; refine AL.nil ?_) | (refine xS 7 1 ?_; refine AL.d (AOp.fr 0) ?_; refine AL.sl 0 ?_; refine AL.nil ?_) | (refine AW.r 8 ?_; refine AL.d (AOp.lw 0) ?_; refine AL.sl 2 ?_; refine AL.nil ?_) | refine AW.jt ?_ | fail)
    exact AW.retc (.cell 2 rfl rfl (by kernel_rfl) .nil) (List.nil_sublist _) ⟨rfl, rfl⟩
   | false =>
    rw [cond_false, cond_true]
    rw [hq, cond_false, cond_false] at hA
    refine Tri.enter 34 Tryz.func97 rfl rfl rfl rfl fun Fr w0 => ?_
    repeat' (first | (refine AW.r 0 ?_; (refine AL.d (AOp.box_ro (v := .st [.int .i64 k, .int .i64 ar, .str nm, strs vars, strs args, .sl (kids.map GFml.av)]) rfl rfl) ?_) <;> refine AL.alloc_z (t := 25) zF (by kernel_rfl) rfl rfl fun r => ?_ <;> refine AL.nil ?_) | (refine AW.r 1 ?_; refine AL.makeMap rfl fun bm => ?_; refine AL.insert (i := 0) (kd := .int .i64) (e := 3) rfl rfl rfl rfl (by kernel_rfl) rfl rfl ?_; refine AL.insert (i := 0) (kd := .int .i64) (e := 3) rfl rfl rfl rfl (by kernel_rfl) rfl rfl ?_; refine AL.insert (i := 0) (kd := .int .i64) (e := 3) rfl rfl rfl rfl (by kernel_rfl) rfl rfl ?_; refine AL.insert (i := 0) (kd := .int .i64) (e := 3) rfl rfl rfl rfl (by kernel_rfl) rfl rfl ?_; refine xN 2 ?_) | (refine AW.r 2 ?_; refine AL.d AOp.fa ?_; refine AL.d AOp.la ?_; refine xN 1 ?_) | refine AW.jj (fun hb => ?_) (fun hb => ?_) | refine AW.go ?_ | fail)
    all_goals try (exfalso; rw [k3] at hb; exact Bool.noConfusion hb)
    repeat' (first | (refine xS 4 1 ?_; refine AL.d AOp.fa ?_; refine AL.d AOp.la ?_; refine AL.d (AOp.lookup_miss (i := 0) (kd := .int .i64) (e := 3) (.int .i64 0) (ok := true) rfl rfl rfl (by kernel_rfl) (by kernel_rfl) rfl rfl (kv4_miss hq)) ?_; refine xN 5 ?_) | refine AW.re 5 1 ?_ | (refine AW.r 9 ?_; refine AL.d AOp.la ?_; refine AL.d (AOp.call rfl rfl (hA.pure _)) ?_; refine AL.d (AOp.lit (e := 25) (sz := 6) (by kernel_rfl) rfl rfl rfl (P_one rfl) (by decide)) ?_; refine AL.d (AOp.build (pl := [(0, 1), (1, 1), (2, 1), (3, 1), (4, 1), (5, 1)]) (z := .st [.int .i64 0, .int .i64 0, .str ⟨#[]⟩, .sl [], .sl [], .sl []]) (by kernel_rfl) rfl rfl rfl) ?_ <;> (refine AL.sl 1 ?_) <;> refine AL.nil ?_) | refine AW.jf ?_ | fail)
    refine AW.retc (.cell 1 rfl rfl (by kernel_rfl) .nil) (List.nil_sublist _) ⟨?_, rfl⟩
    simp [GFml.st, GFml.av_eq, resv, strs]
    exact ⟨rfl, rfl⟩
def noF : GFml := ⟨0, 0, empB, [], [], []⟩
theorem noF_ok : noF.Ok := .mk ⟨rfl, rfl, by show (0 : Nat) ≤ _; omega, lenOk_nil _ _, lenOk_nil _ _⟩ (by show 0 * 104 ≤ _; omega) (fun x hx => by cases hx)
def fitF (f : GFml) : GFml × Int := bif validF f then (f, 0) else (noF, 5)
theorem n_fit (f : GFml) (ho : f.Ok) : Tri Tryz.prog 51 [f.st] [] (D (.tup [(fitF f).1.st, .int .i64 (fitF f).2]) []) := by
 have hv := f_Valid f ho
 unfold fitF
 generalize validF f = V at *
 obtain ⟨k, ar, nm, vars, args, kids⟩ := f
 cases V with
 | true =>
  refine Tri.enter 9 Tryz.func51 rfl rfl rfl rfl fun Fr w0 => ?_
  repeat' (first | (refine AW.r 0 ?_; (refine AL.d (AOp.box_ro (v := .st [.int .i64 k, .int .i64 ar, .str nm, strs vars, strs args, .sl (kids.map GFml.av)]) rfl rfl) ?_) <;> refine AL.alloc_z (t := 25) zF (by kernel_rfl) rfl rfl fun r => ?_ <;> refine AL.es 1 ?_ <;> refine AL.nil ?_) | (refine AW.r 1 ?_; refine AL.d AOp.la ?_; refine AL.d (AOp.call rfl rfl (hv.pure _)) ?_; refine xN 1 ?_) | (refine AW.r 3 ?_; refine AL.d AOp.la ?_; refine AL.sl 0 ?_; refine xN 1 ?_) | refine AW.jf ?_ | fail)
  exact AW.retc (.cell 0 rfl rfl (by kernel_rfl) (.tmp rfl .nil)) (List.nil_sublist _) ⟨rfl, rfl⟩
 | false =>
  refine Tri.enter 9 Tryz.func51 rfl rfl rfl rfl fun Fr w0 => ?_
  repeat' (first | (refine AW.r 0 ?_; (refine AL.d (AOp.box_ro (v := .st [.int .i64 k, .int .i64 ar, .str nm, strs vars, strs args, .sl (kids.map GFml.av)]) rfl rfl) ?_) <;> refine AL.alloc_z (t := 25) zF (by kernel_rfl) rfl rfl fun r => ?_ <;> refine AL.es 1 ?_ <;> refine AL.nil ?_) | (refine AW.r 1 ?_; refine AL.d AOp.la ?_; refine AL.d (AOp.call rfl rfl (hv.pure _)) ?_; refine xN 1 ?_) | (refine AW.r 2 ?_; refine AL.d (AOp.build (pl := [(0, 1), (1, 1), (2, 1), (3, 1), (4, 1), (5, 1)]) (z := .st [.int .i64 0, .int .i64 0, .str ⟨#[]⟩, .sl [], .sl [], .sl []]) (by kernel_rfl) rfl rfl rfl) ?_ <;> refine AL.sl 0 ?_ <;> refine AL.es 1 ?_ <;> refine AL.nil ?_) | refine AW.jt ?_ | fail)
  exact AW.retc (.cell 0 rfl rfl (by kernel_rfl) (.tmp rfl .nil)) (List.nil_sublist _) ⟨rfl, rfl⟩
theorem validF_shs {f : GFml} (h : validF f = true) : shsF f = true := by
 unfold validF at h
 simp only [bA] at h
 exact h.1.1.1.2
def nnfP (f : GFml) : GFml × Int := bif validF f then fitF (nnF f false) else (noF, 1)
theorem n_Nnf (f : GFml) (ho : f.Ok) : Tri Tryz.prog 13 [f.st] [] (D (.tup [(nnfP f).1.st, .int .i64 (nnfP f).2]) []) := by
 have hv := f_Valid f ho
 have hF := n_fit (nnF f false) (nn_ok f false ho)
 have hN := fun h => (n_nn _ f (Nat.le_refl _) ho (validF_shs h)).1
 unfold nnfP
 generalize fitF (nnF f false) = R at *
 generalize nnF f false = g at *
 generalize validF f = V at *
 obtain ⟨R1, R2⟩ := R
 obtain ⟨k, ar, nm, vars, args, kids⟩ := f
 cases V with
 | true =>
  have hN' := hN rfl
  refine Tri.enter 13 Tryz.func13 rfl rfl rfl rfl fun Fr w0 => ?_
  repeat' (first | (refine AW.r 0 ?_; (refine AL.d (AOp.box_ro (v := .st [.int .i64 k, .int .i64 ar, .str nm, strs vars, strs args, .sl (kids.map GFml.av)]) rfl rfl) ?_) <;> refine AL.alloc_z (t := 25) zF (by kernel_rfl) rfl rfl fun r => ?_ <;> refine AL.es 1 ?_ <;> refine AL.nil ?_) | (refine AW.r 1 ?_; refine AL.d AOp.la ?_; refine AL.d (AOp.call rfl rfl (hv.pure _)) ?_; refine xN 1 ?_) | (refine AW.r 3 ?_; refine AL.d AOp.la ?_; refine AL.d (AOp.call rfl rfl (hN'.pure _)) ?_; refine AL.d (AOp.call rfl rfl (hF.pure _)) ?_; refine AL.es 2 ?_; refine AL.sl 0 ?_; refine xN 1 ?_) | refine AW.jf ?_ | fail)
  exact AW.retc (.cell 0 rfl rfl (by kernel_rfl) (.tmp rfl .nil)) (List.nil_sublist _) ⟨rfl, rfl⟩
 | false =>
  refine Tri.enter 13 Tryz.func13 rfl rfl rfl rfl fun Fr w0 => ?_
  repeat' (first | (refine AW.r 0 ?_; (refine AL.d (AOp.box_ro (v := .st [.int .i64 k, .int .i64 ar, .str nm, strs vars, strs args, .sl (kids.map GFml.av)]) rfl rfl) ?_) <;> refine AL.alloc_z (t := 25) zF (by kernel_rfl) rfl rfl fun r => ?_ <;> refine AL.es 1 ?_ <;> refine AL.nil ?_) | (refine AW.r 1 ?_; refine AL.d AOp.la ?_; refine AL.d (AOp.call rfl rfl (hv.pure _)) ?_; refine xN 1 ?_) | (refine AW.r 2 ?_; refine AL.d (AOp.build (pl := [(0, 1), (1, 1), (2, 1), (3, 1), (4, 1), (5, 1)]) (z := .st [.int .i64 0, .int .i64 0, .str ⟨#[]⟩, .sl [], .sl [], .sl []]) (by kernel_rfl) rfl rfl rfl) ?_ <;> refine AL.sl 0 ?_ <;> refine AL.es 1 ?_ <;> refine AL.nil ?_) | refine AW.jt ?_ | fail)
  exact AW.retc (.cell 0 rfl rfl (by kernel_rfl) (.tmp rfl .nil)) (List.nil_sublist _) ⟨rfl, rfl⟩
def bld0 (b : Nat) : AH := [.trow b 123 [.val (.pointer none), nilS]]
def bld1 (b : Nat) : AH := [.trow b 123 [.ref b 0, nilS]]
def bldW (b g : Nat) (us tl : List AV) : AH := [.trow b 123 [.ref b 0, .osl g us.length (us.length + tl.length)], .trow g 5 (us ++ tl)]
theorem copy0 (b : Nat) : Tri Tryz.prog 166 [.ref b 0] (bld0 b) (D (.tup []) (bld1 b)) := by
 refine Tri.enter 20 Tryz.func166 rfl rfl rfl rfl fun Fr w0 => ?_
 repeat' (first | (refine xS 0 2 ?_; refine AL.d (AOp.fr 0) ?_; refine AL.d (AOp.load_tcell 0 rfl rfl rfl rfl (by kernel_rfl)) ?_; refine AL.d (AOp.ptr_nil_nil 123 rfl (by kernel_rfl)) ?_; refine AL.nil ?_) | (refine xS 1 2 ?_; refine AL.d (AOp.conv_un (src := 120) (dst := 215) 0 123 rfl rfl (by kernel_rfl) (by kernel_rfl) (by kernel_rfl) (by decide)) ?_; refine AL.d (AOp.call_same rfl rfl Tryz.func187 (by kernel_rfl) (by kernel_rfl) (by kernel_rfl) (by kernel_rfl)) ?_; refine AL.d (AOp.conv_from (src := 215) (dst := 120) 0 rfl rfl (by kernel_rfl) (by kernel_rfl) (by kernel_rfl) (by kernel_rfl)) ?_; refine AL.es 1 ?_; refine AL.d (AOp.fr 0) ?_; refine AL.store_tcell 0 rfl rfl rfl rfl rfl rfl (by kernel_rfl) ?_; refine AL.nil ?_) | refine AW.jt ?_ | fail)
 exact AW.donev rfl ⟨rfl, rfl⟩
theorem copyW (b : Nat) (v : AV) : Tri Tryz.prog 166 [.ref b 0] [.trow b 123 [.ref b 0, v]] (D (.tup []) [.trow b 123 [.ref b 0, v]]) := by
 refine Tri.enter 20 Tryz.func166 rfl rfl rfl rfl fun Fr w0 => ?_
 repeat' (first | (refine xS 0 2 ?_; refine AL.d (AOp.fr 0) ?_; refine AL.d (AOp.load_tcell 0 rfl rfl rfl rfl (by kernel_rfl)) ?_; refine AL.d (AOp.ptr_nil_ref 123 rfl (by kernel_rfl)) ?_; refine AL.nil ?_) | (refine xS 2 2 ?_; refine AL.d (AOp.fr 0) ?_; refine AL.d (AOp.load_tcell 0 rfl rfl rfl rfl (by kernel_rfl)) ?_; refine AL.es 1 ?_; refine AL.d (AOp.ptr_ne_self 123 rfl rfl (by kernel_rfl) (by kernel_rfl)) ?_; refine AL.nil ?_) | refine AW.jf ?_ | refine AW.go ?_ | fail)
 exact AW.donev rfl ⟨rfl, rfl⟩
theorem ws0 (b : Nat) (s : ByteArray) (h0 : 0 < s.size) (hs : s.size ≤ 140737488355328) : Tri Tryz.prog 143 [.ref b 0, .str s] (bld0 b) (fun x h => (∃ v, x = .ret v) ∧ ∃ g tl, h = bldW b g (bytesAV s) tl) := by
 have hc := copy0 b
 refine Tri.enter 19 Tryz.func143 rfl rfl rfl rfl fun Fr w0 => ?_
 repeat' (first | refine AW.re 0 2 ?_ | (refine xS 1 1 ?_; refine AL.d (AOp.call rfl rfl hc) ?_; refine AL.nil ?_) | refine AW.go ?_ | fail)
 repeat' (first | (refine AW.r 2 ?_; refine AL.e ?_; refine AL.e ?_; refine AL.es 1 ?_; refine AL.d (AOp.fr 1) ?_; refine AL.d (AOp.load_tcell 0 rfl rfl rfl rfl (by kernel_rfl)) ?_; refine AL.e ?_; (refine AL.step rfl rfl (AOp.append_str0 (e := 5) rfl rfl h0 (by kernel_rfl) (by kernel_rfl) hs) ?_ (by rintro _ _ ⟨_, _, e, _⟩; cases e); rintro _ _ ⟨g, tl, e, rfl⟩; injection e with e; subst e) <;> refine AL.es 1 ?_ <;> (refine AL.d (AOp.fr 1) ?_) <;> (refine AL.store_tcell 1 rfl rfl rfl rfl rfl rfl (by kernel_rfl) ?_) <;> refine AL.nil ?_) | refine AW.go ?_ | fail)
 refine AW.perm (b := bldW b g (bytesAV s) tl) (.swap _ _ _) ?_
 repeat' (first | refine AW.re 3 4 ?_ | fail)
 exact AW.retv rfl ⟨⟨_, rfl⟩, _, _, rfl⟩
theorem wsW (b g : Nat) (us tl : List AV) (s : ByteArray) (hs : us.length + s.size ≤ 140737488355328) : Tri Tryz.prog 143 [.ref b 0, .str s] (bldW b g us tl) (fun x h => (∃ v, x = .ret v) ∧ ∃ g tl, h = bldW b g (us ++ bytesAV s) tl) := by
 have hc : Tri Tryz.prog 166 [.ref b 0] (bldW b g us tl) (D (.tup []) (bldW b g us tl)) := Tri.frameD (ah := bldW b g us tl) [true] (copyW b _)
 refine Tri.enter 19 Tryz.func143 rfl rfl rfl rfl fun Fr w0 => ?_
 repeat' (first | refine AW.re 0 2 ?_ | (refine xS 1 1 ?_; refine AL.d (AOp.call rfl rfl hc) ?_; refine AL.nil ?_) | refine AW.go ?_ | fail)
 repeat' (first | (refine AW.r 2 ?_; refine AL.e ?_; refine AL.e ?_; refine AL.es 1 ?_; refine AL.d (AOp.fr 1) ?_; refine AL.d (AOp.load_tcell 0 rfl rfl rfl rfl (by kernel_rfl)) ?_; refine AL.e ?_; (refine AL.step rfl rfl (AOp.append_str (i := 1) (us := us) (tl := tl) (e := 5) rfl rfl rfl (by kernel_rfl) (by kernel_rfl) hs) ?_ (by rintro _ _ ⟨_, _, e, _⟩; cases e); rintro _ _ ⟨g2, tl2, e, rfl⟩; injection e with e; subst e) <;> refine AL.es 1 ?_ <;> (refine AL.d (AOp.fr 1) ?_) <;> (refine AL.store_tcell 0 rfl rfl rfl rfl rfl rfl (by kernel_rfl) ?_) <;> refine AL.nil ?_) | refine AW.go ?_ | fail)
 repeat' (first | refine AW.re 3 4 ?_ | fail)
 exact AW.retv rfl ⟨⟨_, rfl⟩, _, _, rfl⟩
theorem wbW (b g : Nat) (us tl : List AV) (c : Int) (hs : us.length + 1 ≤ 140737488355328) : Tri Tryz.prog 144 [.ref b 0, .int .u8 c] (bldW b g us tl) (fun x h => (∃ v, x = .ret v) ∧ ∃ g tl, h = bldW b g (us ++ [.int .u8 c]) tl) := by
 have hc : Tri Tryz.prog 166 [.ref b 0] (bldW b g us tl) (D (.tup []) (bldW b g us tl)) := Tri.frameD (ah := bldW b g us tl) [true] (copyW b _)
 refine Tri.enter 17 Tryz.func144 rfl rfl rfl rfl fun Fr w0 => ?_
 repeat' (first | refine AW.re 0 1 ?_ | (refine xS 1 1 ?_; refine AL.d (AOp.call rfl rfl hc) ?_; refine AL.nil ?_) | refine AW.go ?_ | fail)
 repeat' (first | (refine AW.r 2 ?_; refine AL.e ?_; refine AL.e ?_; refine AL.es 1 ?_; refine AL.d (AOp.fr 1) ?_; refine AL.d (AOp.load_tcell 0 rfl rfl rfl rfl (by kernel_rfl)) ?_; refine AL.e ?_; refine AL.d (AOp.lit (e := 5) (sz := 1) (by kernel_rfl) rfl rfl rfl (P_one rfl) (by decide)) ?_; (refine AL.step rfl rfl (AOp.append_t (i := 1) (us := us) (tl := tl) (v := .int .u8 c) (e := 5) (bytes := 1) (c0 := .int .u8 0) rfl rfl rfl rfl rfl (by kernel_rfl) (by kernel_rfl) (by omega) (by omega)) ?_ (by rintro _ _ ⟨_, _, e, _⟩; cases e); rintro _ _ ⟨g2, tl2, e, rfl⟩; injection e with e; subst e) <;> refine AL.es 1 ?_ <;> (refine AL.d (AOp.fr 1) ?_) <;> (refine AL.store_tcell 0 rfl rfl rfl rfl rfl rfl (by kernel_rfl) ?_) <;> refine AL.nil ?_) | refine AW.go ?_ | fail)
 repeat' (first | refine AW.re 3 1 ?_ | fail)
 exact AW.retv rfl ⟨⟨_, rfl⟩, _, _, rfl⟩
theorem lenW (b g : Nat) (us tl : List AV) : Tri Tryz.prog 94 [.ref b 0] (bldW b g us tl) (D (.int .i64 us.length) (bldW b g us tl)) := by
 refine Tri.enter 8 Tryz.func94 rfl rfl rfl rfl fun Fr w0 => ?_
 repeat' (first | refine AW.re 0 1 ?_ | (refine xS 1 2 ?_; refine AL.d (AOp.fr 1) ?_; refine AL.d (AOp.load_tcell 0 rfl rfl rfl rfl (by kernel_rfl)) ?_; refine xN 2 ?_) | fail)
 exact AW.retv rfl ⟨rfl, rfl⟩
theorem strW (b g : Nat) (l : List UInt8) (tl : List AV) (h0 : l ≠ []) (hl : l.length ≤ 9223372036854775807) : Tri Tryz.prog 95 [.ref b 0] (bldW b g (bytesAV ⟨l.toArray⟩) tl) (D (.str ⟨l.toArray⟩) []) := by
 have hb : (bytesAV ⟨l.toArray⟩).length = l.length := by rw [bytesAV_length]; simp [ByteArray.size]
 have hp : 0 < l.length := List.length_pos_iff.2 h0
 refine Tri.enter 14 Tryz.func95 rfl rfl rfl rfl fun Fr w0 => ?_
 repeat' (first | refine AW.re 0 1 ?_ | refine AW.go ?_ | fail)
 repeat' (first | (refine AW.ex 1 [false, true] [10, 11] ?_; refine AQE.e ?_; refine AQE.e ?_; refine AQE.p rfl (AOp.fr 1) ?_; refine AQE.p rfl (AOp.load_tcell 0 rfl rfl rfl rfl (by kernel_rfl)) ?_; refine AQE.p rfl (AOp.sliceData rfl (by rw [hb]; exact hp)) ?_ <;> refine AQE.e ?_ <;> refine AQE.e ?_ <;> (refine AQE.p rfl (AOp.fr 1) ?_) <;> (refine AQE.p rfl (AOp.load_tcell 0 rfl rfl rfl rfl (by kernel_rfl)) ?_) <;> ((refine AQE.p rfl (AOp.len (n := l.length) rfl (by rw [← hb]; rfl) (by kernel_rfl)) ?_)) <;> refine AQE.hl ?_ <;> refine AQE.hl ?_ <;> refine AQE.nil ?_ <;> refine AX.o (n := 1) 10 ?_ <;> refine AXO.d (AOp.unsafeStr (i := 0) (l := l) (tl := tl) (e := 5) rfl rfl rfl h0 (by kernel_rfl) (by kernel_rfl) hl) ?_ <;> try dsimp only [sA, sB, sC, sD] <;> refine AX.o (n := 0) 11 ?_ <;> refine AXO.e ?_ <;> try dsimp only [sA, sB, sC, sD] <;> refine AX.done_keep [2] ?_) | fail)
 exact AW.ret_drop rfl (List.nil_sublist _) ⟨rfl, rfl⟩
def joinB (xs : List ByteArray) (sep : ByteArray) : ByteArray := ⟨(Lib.join (xs.map (·.data.toList)) sep.data.toList).toArray⟩
theorem Join_str (xs : List ByteArray) (sep : ByteArray) (hN : xs.length ≤ 140737488355328) (hlen : (joinB xs sep).size ≤ 140737488355328) : Tri Tryz.prog 145 [strs xs, .str sep] [] (D (.str (joinB xs sep)) []) := by
 refine ⟨⟨_, Tryz.func145, rfl, rfl⟩, fun Fr w vs hst hrel => ?_⟩
 simp only [RelVs] at hrel
 obtain ⟨u1, us, rfl, h1, h1', u2, us2, rfl, h2, h2', rfl⟩ := hrel
 obtain ⟨A, c, hu, k1, k2, k3⟩ := srcOf_rel (v := strs xs) ⟨h1, h1'⟩ rfl
 have hs : u2 = .string sep := Rel.str ⟨h2, h2'⟩
 subst hu hs
 rw [lM] at k1 ⊢
 have hmono : ∀ e w', e = Ending.returned (.string (joinB xs sep)) ∧ Below w.heap.size w w' → EndR Fr (reg []) w (D (.str (joinB xs sep)) []) e w' := by
  rintro e w' ⟨rfl, hb⟩
  have hext : Ext (fun _ _ => False) w w' := ⟨hb.os, hb.tape, hb.output, hb.size, fun k hk _ => hb.block k hk, fun ad v hc _ => (World.cell?_of_block (hb.block ad.block (cell_lt hc))).trans hc⟩
  exact ⟨_, _, ⟨rfl, rfl⟩, ⟨_, rfl, mk_str⟩, hst.grow hext, hext.mono fun _ _ h => h.elim, fun _ _ _ h => h⟩
 by_cases hx : xs = []
 ·subst hx
  refine (Tryz.strings_Join_none A c sep w).mono fun e w' ⟨he, hw⟩ => hmono e w' ⟨he, hw ▸ Below.refl _ _⟩
 ·obtain ⟨b, o, sz, rfl, hr⟩ := k3 (by simpa using hx)
  obtain ⟨ds, d1, d2, d3, d4⟩ := hr.cells
  have hsz1 : sz = 1 := by
   cases xs with
   | nil => exact (hx rfl).elim
   | cons x l => exact (d2 (.str x) (by simp)).symm
  subst hsz1
  have hcells : ∀ (j : Nat) x, xs[j]? = some x → w.cell? ⟨b, o + j, none⟩ = some (.string x) := fun j x hj => by
   obtain ⟨v, hv, hrv⟩ := RelCs.get1 d1 d2 j (.str x) (by simp [hj])
   simp only [RelC, List.cons.injEq, and_true] at hrv
   subst hrv
   exact (d4 j _ hv).2
  have hbk : b < w.heap.size := by
   cases xs with
   | nil => exact (hx rfl).elim
   | cons x l => exact cell_lt (hcells 0 x rfl)
  exact (Tryz.strings_Join b o c xs sep w hcells hbk hN k1 (by simpa [joinB, ByteArray.size] using hlen)).mono fun e w' h => hmono e w' h
def sp : ByteArray := ⟨#[32]⟩
def hdT (k : Int) (nm JV JA : ByteArray) : ByteArray :=
 if k = 0 then nm ++ ⟨#[40]⟩ ++ JA ++ ⟨#[41]⟩ else if k = 3 then ⟨#[110, 111, 116, 40]⟩ else if k = 5 then ⟨#[111, 114, 40]⟩ else ⟨#[97, 108, 108, 40]⟩ ++ JV ++ ⟨#[58, 32]⟩
mutual
def txA : GFml → List AV
 | ⟨k, ar, nm, vars, args, kids⟩ => bif k == 0 then bytesAV (hdT k nm (joinB vars sp) (joinB args sp)) else bytesAV (hdT k nm (joinB vars sp) (joinB args sp)) ++ txK true kids ++ [.int .u8 41]
def txK : Bool → List GFml → List AV
 | _, [] => []
 | fst, x :: l => (bif fst then [] else bytesAV ⟨#[44, 32]⟩) ++ txA x ++ txK false l
end
mutual
def wOk : GFml → Bool
 | ⟨k, ar, nm, vars, args, kids⟩ => decide (vars.length ≤ 1000000) && decide (args.length ≤ 1000000) && decide ((joinB vars sp).size ≤ 1000000) && decide ((joinB args sp).size ≤ 1000000) && decide (nm.size ≤ 1000000) && (k == 0 || k == 3 || (k == 5 && decide (0 < kids.length)) || k == 7) && wOks kids
def wOks : List GFml → Bool
 | [] => true
 | x :: l => wOk x && wOks l
end
def BW (b : Nat) (us : List AV) (h : AH) : Prop := (us = [] ∧ h = bld0 b) ∨ ∃ g tl, h = bldW b g us tl
theorem ws_any (b : Nat) (us : List AV) (h : AH) (s : ByteArray) (hB : BW b us h) (h0 : 0 < s.size) (hs : us.length + s.size ≤ 140737488355328) : Tri Tryz.prog 143 [.ref b 0, .str s] h (fun x h => (∃ v, x = .ret v) ∧ ∃ g tl, h = bldW b g (us ++ bytesAV s) tl) := by
 rcases hB with ⟨rfl, rfl⟩ | ⟨g, tl, rfl⟩
 ·exact ws0 b s h0 (by simpa using hs)
 ·exact wsW b g us tl s hs
def sepA (i : Nat) : List AV := bif i == 0 then [] else bytesAV ⟨#[44, 32]⟩
theorem wr_kids (k ar : Int) (nm : ByteArray) (vars args : List ByteArray) (kids : List GFml) (b : Nat) (hk : kids.length ≤ 1000000)
  (ih : ∀ x ∈ kids, ∀ g us tl, us.length + (txA x).length ≤ 1000000 → Tri Tryz.prog 93 [.ref b 0, x.st] (bldW b g us tl) (fun y h => y = .ret (.tup []) ∧ ∃ g' tl', h = bldW b g' (us ++ txA x) tl'))
  (g : Nat) (us tl : List AV) (hl : us.length + (txK true kids).length + 1 ≤ 1000000) :
  Tri Tryz.prog 142 [.at (.st [.int .i64 k, .int .i64 ar, .str nm, strs vars, strs args, .sl (kids.map GFml.av)]), .at (.ref b 0)] (bldW b g us tl) (fun y h => y = .ret (.tup []) ∧ ∃ g' tl', h = bldW b g' (us ++ txK true kids ++ [.int .u8 41]) tl') := by
 refine Tri.enter 22 Tryz.func142 rfl rfl rfl rfl fun Fr w0 => ?_
 repeat' (first | refine AW.re 0 4 ?_ | refine AW.go ?_ | fail)
 refine AW.prune [1, 5, 6, 7] (AW.loop (fun mz af h => ∃ (i : Nat) (gg : Nat) (uu : List AV) (tt : List AV), i ≤ kids.length ∧ mz = kids.length - i ∧ af = [(1, .at (.ref b 0)), (5, .sl (kids.map GFml.av)), (6, .int .i64 (kids.map GFml.av).length), (7, .int .i64 i)] ∧ h = bldW b gg uu tt ∧ (us ++ txK true kids = uu ++ txK (i == 0) (kids.drop i) ∧ uu.length + (txK (i == 0) (kids.drop i)).length + 1 ≤ 1000000)) kids.length ⟨0, g, us, tl, Nat.zero_le _, rfl, rfl, rfl, ⟨rfl, hl⟩⟩ ?_)
 rintro mz af h ⟨i, gg, uu, tt, hi, rfl, rfl, rfl, he⟩
 refine AW.seq ?_
 by_cases hlt : i < kids.length
 ·obtain ⟨he, hle⟩ := he
  obtain ⟨x, hx⟩ := get_lt hlt
  have hx' : (kids.map GFml.av)[((i : Nat) : Int).toNat]? = some (x.st) := GFml.get hx
  rw [drop_cons hx, txK] at he hle
  have hsep : (bif (i == 0) then [] else bytesAV ⟨#[44, 32]⟩) = sepA i := rfl
  rw [hsep] at he hle
  simp only [lA] at hle
  repeat' (first | refine AW.re 1 1 ?_ | refine AW.jj (fun hb => ?_) (fun hb => ?_) | refine AW.go ?_ | fail)
  all_goals try (exfalso; simp only [dT, dF, lM] at *; omega)
  repeat' (first | (refine xS 2 1 ?_; refine AL.d (iX hx') ?_; refine AL.es 1 ?_; refine AL.alloc_new (by kernel_rfl) rfl fun b3 => ?_; refine AL.es 1 ?_; refine AL.store_new rfl rfl (by kernel_rfl) rfl rfl ?_; refine AL.nil ?_) | fail)
  refine AW.seq ?_
  refine AW.cut (fun af ah => ∃ g1 t1, af = [(1, .at (.ref b 0)), (3, .at x.st), (5, .sl (kids.map GFml.av)), (6, .int .i64 (kids.map GFml.av).length), (7, .int .i64 i)] ∧ ah = bldW b g1 (uu ++ sepA i) t1) ?_ ?_
  ·have hw := wsW b gg uu tt ⟨#[44, 32]⟩ (by show uu.length + 2 ≤ _; omega)
   repeat' (first | refine AW.re 3 2 ?_ | (refine xS 4 1 ?_; (refine AL.callQ rfl rfl hw rfl ?_ ?_; rotate_left; rintro _ _ ⟨⟨_, e⟩, _⟩; cases e; rintro _ _ ⟨⟨v, e⟩, g2, t2, rfl⟩; injection e with e; subst e) <;> refine AL.nil ?_) | refine AW.jj (fun hb => ?_) (fun hb => ?_) | refine AW.go ?_ | fail)
   ·have h0 : (i == 0) = false := by simp only [dT] at hb; simp; omega
    exact AW.meet [1, 3, 5, 6, 7] ⟨g2, t2, rfl, by rw [sepA, h0]; rfl⟩
   ·have h0 : (i == 0) = true := by simp only [dF] at hb; simp; omega
    exact AW.meet [1, 3, 5, 6, 7] ⟨gg, tt, rfl, by rw [sepA, h0, cond_true, List.append_nil]⟩
  rintro af ah ⟨g1, t1, rfl, rfl⟩
  have hc := ih x (lG hx) g1 (uu ++ sepA i) t1 (by simp only [lA]; omega)
  repeat' (first | (refine xS 5 2 ?_; (refine AL.callQ rfl rfl hc rfl ?_ ?_; rotate_left; rintro _ _ ⟨e, _⟩; cases e; rintro _ _ ⟨e, g2, t2, rfl⟩; injection e with e; subst e) <;> refine AL.nil ?_) | refine AW.go ?_ | fail)
  repeat' (first | (refine AW.r 6 ?_; refine AL.d AOp.ad ?_; refine xN 1 ?_) | fail)
  have hi1 : (i + 1 == 0) = false := by simp
  refine AW.again_keep (kids.length - (i + 1)) [1, 5, 6, 7] (by omega) ⟨i + 1, g2, uu ++ sepA i ++ txA x, t2, hlt, rfl, rfl, rfl, ?_⟩
  rw [hi1]
  exact ⟨by rw [he]; simp only [List.append_assoc], by simp only [lA]; omega⟩
 ·obtain ⟨he, hle⟩ := he
  rw [List.drop_eq_nil_of_le (by omega), txK] at he
  have hw := wbW b gg uu tt 41 (by omega)
  repeat' (first | refine AW.re 1 1 ?_ | refine AW.jj (fun hb => ?_) (fun hb => ?_) | refine AW.go ?_ | fail)
  all_goals try (exfalso; simp only [dT, dF, lM] at *; omega)
  repeat' (first | (refine xS 7 1 ?_; (refine AL.callQ rfl rfl hw rfl ?_ ?_; rotate_left; rintro _ _ ⟨⟨_, e⟩, _⟩; cases e; rintro _ _ ⟨⟨v, e⟩, g2, t2, rfl⟩; injection e with e; subst e) <;> refine AL.nil ?_) | fail)
  exact AW.donev rfl ⟨rfl, _, _, by rw [he, List.append_nil]⟩
theorem wOks_mem {l : List GFml} {x : GFml} (h : wOks l = true) (hx : x ∈ l) : wOk x = true := by
 induction l with
 | nil => cases hx
 | cons y l ih =>
  rw [wOks, bA] at h
  rcases List.mem_cons.1 hx with rfl | hx
  ·exact h.1
  ·exact ih h.2 hx
theorem wr_write : ∀ (N : Nat) (f : GFml) (b : Nat) (us : List AV) (h : AH), ndF f ≤ N → f.Ok → wOk f = true → ndF f ≤ 1000000 → BW b us h → us.length + (txA f).length ≤ 1000000 →
  Tri Tryz.prog 93 [.ref b 0, f.st] h (fun y h' => y = .ret (.tup []) ∧ ∃ g' tl', h' = bldW b g' (us ++ txA f) tl') := by
 intro N
 induction N using Nat.strongRecOn with
 | _ N ih =>
  intro f b us h hN ho hw hnm hB hlen
  have hnd := ndF_eq f
  have hkl := ndFs_len f.Kids
  obtain ⟨_, q6, q7⟩ := ho
  have hK := fun (hw : wOks f.Kids = true) x (hx : x ∈ f.Kids) g us tl hl => ih (ndF x) (by have := ndFs_mem hx; omega) x b us (bldW b g us tl) (Nat.le_refl _) (q7 x hx) (wOks_mem hw hx) (by have := ndFs_mem hx; omega) (.inr ⟨g, tl, rfl⟩) hl
  obtain ⟨k, ar, nm, vars, args, kids⟩ := f
  simp only at *
  rw [wOk] at hw
  simp only [bA, dT] at hw
  obtain ⟨⟨⟨⟨⟨⟨w1, w2⟩, w3⟩, w4⟩, w5⟩, w6⟩, w7⟩ := hw
  have hV := Join_str vars sp (by omega) (by omega)
  have hA := Join_str args sp (by omega) (by omega)
  have hC := fun g us tl hl => wr_kids k ar nm vars args kids b (by omega) (hK w7) g us tl hl
  rw [txA] at hlen ⊢
  have hk : k = 0 ∨ k = 3 ∨ (k = 5 ∧ 0 < kids.length) ∨ k = 7 := by
   simp only [Bool.or_eq_true, bA, beq_iff_eq, dT] at w6
   omega
  have z1 : (⟨#[40]⟩ : ByteArray).size = 1 := rfl
  have z2 : (⟨#[41]⟩ : ByteArray).size = 1 := rfl
  have z3 : (⟨#[97, 108, 108, 40]⟩ : ByteArray).size = 4 := rfl
  have z4 : (⟨#[58, 32]⟩ : ByteArray).size = 2 := rfl
  have z5 : (⟨#[110, 111, 116, 40]⟩ : ByteArray).size = 4 ∧ (⟨#[111, 114, 40]⟩ : ByteArray).size = 3 := ⟨rfl, rfl⟩
  generalize joinB vars sp = JV at *
  generalize joinB args sp = JA at *
  rcases hk with rfl | rfl | ⟨rfl, hpos⟩ | rfl
  ·have e0 : ((0 : Int) == 0) = true := rfl
   rw [e0, cond_true] at hlen ⊢
   generalize hhd : hdT 0 nm JV JA = hd at *
   have hd' : hd = nm ++ ⟨#[40]⟩ ++ JA ++ ⟨#[41]⟩ := by rw [← hhd]; rfl
   have hsz : 0 < hd.size ∧ hd.size ≤ 2000010 := by rw [hd']; simp only [ByteArray.size_append, z1, z2]; omega
   rw [bytesAV_length] at hlen
   have hw1 := ws_any b us h hd hB hsz.1 (by omega)
   rw [hd'] at hw1
   refine Tri.enter 153 Tryz.func93 rfl rfl rfl rfl fun Fr w0 => ?_
   repeat' (first | (refine AW.r 0 ?_; refine AL.d (AOp.box_ro (v := .ref b 0) rfl rfl) ?_; (refine AL.d (AOp.box_ro (v := .st [.int .i64 0, .int .i64 ar, .str nm, strs vars, strs args, .sl (kids.map GFml.av)]) rfl rfl) ?_) <;> refine AL.nil ?_) | refine AW.re 1 2 ?_ | (refine AW.dq 2 ?_; refine AQ.es 2 ?_; refine AQ.p rfl (AOp.call rfl rfl (hV.pure _)) ?_; refine AQ.es 2 ?_; refine AQ.p rfl (AOp.call rfl rfl (hA.pure _)) ?_; refine AQ.es 2 ?_; refine AQ.nil ?_) | refine AW.re 3 2 ?_ | refine AW.re 4 2 ?_ | (refine xS 5 3 ?_; ((refine AL.d (AOp.str_add rfl rfl (by simp only [ByteArray.size_append, z1, z2, z3, z4]; omega)) ?_)) <;> refine AL.es 1 ?_ <;> ((refine AL.d (AOp.str_add rfl rfl (by simp only [ByteArray.size_append, z1, z2, z3, z4]; omega)) ?_)) <;> ((refine AL.d (AOp.str_add rfl rfl (by simp only [ByteArray.size_append, z1, z2, z3, z4]; omega)) ?_)) <;> (((refine AL.callQ rfl rfl hw1 rfl ?_ ?_; rotate_left; rintro _ _ ⟨⟨_, e⟩, _⟩; cases e; rintro _ _ ⟨⟨v, e⟩, g1, t1, rfl⟩; injection e with e; subst e))) <;> refine AL.nil ?_) | refine AW.jt ?_ | refine AW.go ?_ | fail)
   exact AW.donev rfl ⟨rfl, _, _, by rw [hd']⟩
  ·have e0 : ((3 : Int) == 0) = false := rfl
   rw [e0, cond_false] at hlen ⊢
   generalize hhd : hdT 3 nm JV JA = hd at *
   have hd' : hd = ⟨#[110, 111, 116, 40]⟩ := by rw [← hhd]; rfl
   have hsz : 0 < hd.size ∧ hd.size ≤ 2000010 := by rw [hd']; simp only [ByteArray.size_append, z1, z2, z3, z4, z5]; omega
   simp only [lA, List.length_singleton, bytesAV_length] at hlen
   have hw1 := ws_any b us h hd hB hsz.1 (by omega)
   rw [hd'] at hw1
   refine Tri.enter 153 Tryz.func93 rfl rfl rfl rfl fun Fr w0 => ?_
   repeat' (first | (refine AW.r 0 ?_; refine AL.d (AOp.box_ro (v := .ref b 0) rfl rfl) ?_; (refine AL.d (AOp.box_ro (v := .st [.int .i64 3, .int .i64 ar, .str nm, strs vars, strs args, .sl (kids.map GFml.av)]) rfl rfl) ?_) <;> refine AL.nil ?_) | refine AW.re 1 2 ?_ | (refine AW.dq 2 ?_; refine AQ.es 2 ?_; refine AQ.p rfl (AOp.call rfl rfl (hV.pure _)) ?_; refine AQ.es 2 ?_; refine AQ.p rfl (AOp.call rfl rfl (hA.pure _)) ?_; refine AQ.es 2 ?_; refine AQ.nil ?_) | refine AW.re 3 2 ?_ | refine AW.re 4 2 ?_ | refine AW.re 6 2 ?_ | refine AW.re 8 2 ?_ | refine AW.re 10 2 ?_ | (refine xS 11 1 ?_; (((refine AL.callQ rfl rfl hw1 rfl ?_ ?_; rotate_left; rintro _ _ ⟨⟨_, e⟩, _⟩; cases e; rintro _ _ ⟨⟨v, e⟩, g1, t1, rfl⟩; injection e with e; subst e))) <;> refine AL.nil ?_) | refine AW.jt ?_ | refine AW.jf ?_ | fail)
   rw [← hd']
   have hc := hC g1 (us ++ bytesAV hd) t1 (by simp only [lA, bytesAV_length]; omega)
   repeat' (first | (refine xS 12 1 ?_; (refine AL.callQ rfl rfl hc rfl ?_ ?_; rotate_left; rintro _ _ ⟨e, _⟩; cases e; rintro _ _ ⟨e, g2, t2, rfl⟩; injection e with e; subst e) <;> refine AL.nil ?_) | refine AW.go ?_ | fail)
   exact AW.donev rfl ⟨rfl, g2, t2, by simp only [List.append_assoc]⟩
  ·have e0 : ((5 : Int) == 0) = false := rfl
   rw [e0, cond_false] at hlen ⊢
   generalize hhd : hdT 5 nm JV JA = hd at *
   have hd' : hd = ⟨#[111, 114, 40]⟩ := by rw [← hhd]; rfl
   have hsz : 0 < hd.size ∧ hd.size ≤ 2000010 := by rw [hd']; simp only [ByteArray.size_append, z1, z2, z3, z4, z5]; omega
   simp only [lA, List.length_singleton, bytesAV_length] at hlen
   have hw1 := ws_any b us h hd hB hsz.1 (by omega)
   rw [hd'] at hw1
   refine Tri.enter 153 Tryz.func93 rfl rfl rfl rfl fun Fr w0 => ?_
   repeat' (first | (refine AW.r 0 ?_; refine AL.d (AOp.box_ro (v := .ref b 0) rfl rfl) ?_; (refine AL.d (AOp.box_ro (v := .st [.int .i64 5, .int .i64 ar, .str nm, strs vars, strs args, .sl (kids.map GFml.av)]) rfl rfl) ?_) <;> refine AL.nil ?_) | refine AW.re 1 2 ?_ | (refine AW.dq 2 ?_; refine AQ.es 2 ?_; refine AQ.p rfl (AOp.call rfl rfl (hV.pure _)) ?_; refine AQ.es 2 ?_; refine AQ.p rfl (AOp.call rfl rfl (hA.pure _)) ?_; refine AQ.es 2 ?_; refine AQ.nil ?_) | refine AW.re 3 2 ?_ | refine AW.re 4 2 ?_ | refine AW.re 6 2 ?_ | refine AW.re 8 2 ?_ | refine AW.re 10 2 ?_ | refine AW.re 13 2 ?_ | refine AW.re 14 2 ?_ | (refine AW.r 15 ?_; refine AL.d (AOp.buildA (z := .st [.str empB, .str empB]) (n := 2) (sz := 1) (zc := [.string ⟨#[]⟩, .string ⟨#[]⟩]) (by kernel_rfl) rfl rfl rfl) ?_; refine AL.d (AOp.buildA (z := .st [.str empB, .str empB]) (n := 2) (sz := 1) (zc := [.string ⟨#[]⟩, .string ⟨#[]⟩]) (by kernel_rfl) rfl rfl rfl) ?_; refine AL.d (AOp.buildA (z := .st [.st [.str empB, .str empB], .st [.str empB, .str empB]]) (n := 2) (sz := 2) (zc := [.string ⟨#[]⟩, .string ⟨#[]⟩, .string ⟨#[]⟩, .string ⟨#[]⟩]) (by kernel_rfl) rfl rfl rfl) ?_; refine AL.es 2 ?_; refine AL.d AOp.sb ?_; refine AL.d (AOp.index_arrA (n := 2) (e := 179) rfl rfl (by omega) (by omega) rfl (by kernel_rfl) (by kernel_rfl) rfl) ?_; refine AL.alloc_store (by kernel_rfl) rfl rfl rfl rfl ?_; refine AL.nil ?_) | refine AW.re 16 4 ?_ | refine AW.jt ?_ | refine AW.jf ?_ | refine AW.jj (fun hb => ?_) (fun hb => ?_) | refine AW.go ?_ | fail)
   all_goals try (exfalso; simp only [lM, beq_iff_eq] at hb; omega)
   repeat' (first | (refine xS 18 1 ?_; refine AL.d (AOp.index_at (n := 2) (sz := 1) (zc := [.string ⟨#[]⟩, .string ⟨#[]⟩]) rfl rfl (by omega) (by omega) rfl (by kernel_rfl) rfl) ?_; refine AL.es 1 ?_; (((refine AL.callQ rfl rfl hw1 rfl ?_ ?_; rotate_left; rintro _ _ ⟨⟨_, e⟩, _⟩; cases e; rintro _ _ ⟨⟨v, e⟩, g1, t1, rfl⟩; injection e with e; subst e))) <;> refine AL.nil ?_) | fail)
   rw [← hd']
   have hc := hC g1 (us ++ bytesAV hd) t1 (by simp only [lA, bytesAV_length]; omega)
   repeat' (first | (refine xS 19 1 ?_; (refine AL.callQ rfl rfl hc rfl ?_ ?_; rotate_left; rintro _ _ ⟨e, _⟩; cases e; rintro _ _ ⟨e, g2, t2, rfl⟩; injection e with e; subst e) <;> refine AL.nil ?_) | refine AW.go ?_ | fail)
   exact AW.donev rfl ⟨rfl, g2, t2, by simp only [List.append_assoc]⟩
  ·have e0 : ((7 : Int) == 0) = false := rfl
   rw [e0, cond_false] at hlen ⊢
   generalize hhd : hdT 7 nm JV JA = hd at *
   have hd' : hd = ⟨#[97, 108, 108, 40]⟩ ++ JV ++ ⟨#[58, 32]⟩ := by rw [← hhd]; rfl
   have hsz : 0 < hd.size ∧ hd.size ≤ 2000010 := by rw [hd']; simp only [ByteArray.size_append, z1, z2, z3, z4, z5]; omega
   simp only [lA, List.length_singleton, bytesAV_length] at hlen
   have hw1 := ws_any b us h hd hB hsz.1 (by omega)
   rw [hd'] at hw1
   refine Tri.enter 153 Tryz.func93 rfl rfl rfl rfl fun Fr w0 => ?_
   repeat' (first | (refine AW.r 0 ?_; refine AL.d (AOp.box_ro (v := .ref b 0) rfl rfl) ?_; (refine AL.d (AOp.box_ro (v := .st [.int .i64 7, .int .i64 ar, .str nm, strs vars, strs args, .sl (kids.map GFml.av)]) rfl rfl) ?_) <;> refine AL.nil ?_) | refine AW.re 1 2 ?_ | (refine AW.dq 2 ?_; refine AQ.es 2 ?_; refine AQ.p rfl (AOp.call rfl rfl (hV.pure _)) ?_; refine AQ.es 2 ?_; refine AQ.p rfl (AOp.call rfl rfl (hA.pure _)) ?_; refine AQ.es 2 ?_; refine AQ.nil ?_) | refine AW.re 3 2 ?_ | refine AW.re 4 2 ?_ | refine AW.re 6 2 ?_ | refine AW.re 8 2 ?_ | refine AW.re 10 2 ?_ | refine AW.re 13 2 ?_ | refine AW.re 14 2 ?_ | refine AW.re 20 2 ?_ | refine AW.re 21 2 ?_ | (refine AW.dl 22 9 ?_; refine AQ.es 1 ?_; refine AQ.p rfl (AOp.buildA (z := .st [.str empB, .str empB]) (n := 2) (sz := 1) (zc := [.string ⟨#[]⟩, .string ⟨#[]⟩]) (by kernel_rfl) rfl rfl rfl) ?_; refine AQ.es 2 ?_; refine AQ.p rfl AOp.sb ?_; refine AQ.p rfl (AOp.index_arr (n := 2) (e := 9) rfl rfl (by omega) (by omega) rfl (by kernel_rfl) (by kernel_rfl) rfl) ?_; refine AQ.es 1 ?_; ((refine AQ.p rfl (AOp.str_add rfl rfl (by simp only [ByteArray.size_append, z1, z2, z3, z4]; omega)) ?_)) <;> ((refine AQ.p rfl (AOp.str_add rfl rfl (by simp only [ByteArray.size_append, z1, z2, z3, z4]; omega)) ?_)) <;> refine AQ.nil ?_ <;> (((refine AL.callQ rfl rfl hw1 rfl ?_ ?_; rotate_left; rintro _ _ ⟨⟨_, e⟩, _⟩; cases e; rintro _ _ ⟨⟨v, e⟩, g1, t1, rfl⟩; injection e with e; subst e))) <;> refine AL.nil ?_) | refine AW.jt ?_ | refine AW.jf ?_ | fail)
   rw [← hd']
   have hc := hC g1 (us ++ bytesAV hd) t1 (by simp only [lA, bytesAV_length]; omega)
   repeat' (first | (refine xS 23 1 ?_; (refine AL.callQ rfl rfl hc rfl ?_ ?_; rotate_left; rintro _ _ ⟨e, _⟩; cases e; rintro _ _ ⟨e, g2, t2, rfl⟩; injection e with e; subst e) <;> refine AL.nil ?_) | refine AW.go ?_ | fail)
   exact AW.donev rfl ⟨rfl, g2, t2, by simp only [List.append_assoc]⟩
theorem f_Text (f : GFml) (ho : f.Ok) (hv : validF f = true) (hw : wOk f = true) (hn : ndF f ≤ 1000000) (l : List UInt8) (hl : txA f = bytesAV ⟨l.toArray⟩) (h0 : l ≠ []) (h4 : l.length ≤ 40000) :
  Tri Tryz.prog 49 [f.st] [] (D (.tup [.str ⟨l.toArray⟩, .int .i64 0]) []) := by
 have hV := f_Valid f ho
 have hbl : (bytesAV ⟨l.toArray⟩).length = l.length := by rw [bytesAV_length]; simp [ByteArray.size]
 have hW := fun b => wr_write _ f b [] (bld0 b) (Nat.le_refl _) ho hw hn (.inl ⟨rfl, rfl⟩) (by rw [hl, hbl]; simp; omega)
 rw [hl, List.nil_append] at hW
 rw [hv] at hV
 clear hl hv hw hn
 obtain ⟨k, ar, nm, vars, args, kids⟩ := f
 refine Tri.enter 13 Tryz.func49 rfl rfl rfl rfl fun Fr w0 => ?_
 repeat' (first | (refine AW.r 0 ?_; (refine AL.d (AOp.box_ro (v := .st [.int .i64 k, .int .i64 ar, .str nm, strs vars, strs args, .sl (kids.map GFml.av)]) rfl rfl) ?_) <;> refine AL.es 2 ?_ <;> refine AL.nil ?_) | (refine xS 1 1 ?_; refine AL.d (AOp.call rfl rfl (hV.pure _)) ?_; refine xN 1 ?_) | refine AW.jf ?_ | refine AW.go ?_ | fail)
 repeat' (first | (refine AW.r 3 ?_; refine AL.alloc_t [.val (.pointer none), nilS] (by kernel_rfl) rfl (by simp [AV.size, nilS]; exact ⟨rfl, rfl⟩) rfl fun b => ?_ <;> refine AL.nil ?_) | refine AW.go ?_ | fail)
 have hw := hW b
 repeat' (first | (refine xS 4 1 ?_; (refine AL.callQ rfl rfl hw rfl ?_ ?_; rotate_left; rintro _ _ ⟨e, _⟩; cases e; rintro _ _ ⟨e, g, t, rfl⟩; injection e with e; subst e) <;> refine AL.nil ?_) | refine AW.go ?_ | fail)
 have hL := lenW b g (bytesAV ⟨l.toArray⟩) t
 rw [hbl] at hL
 have hS := strW b g l t h0 (by omega)
 repeat' (first | (refine AW.r 5 ?_; refine AL.d (AOp.call rfl rfl hL) ?_; refine xN 1 ?_) | (refine AW.r 7 ?_; refine AL.d (AOp.call rfl rfl hS) ?_; refine xN 2 ?_) | refine AW.jj (fun hb => ?_) (fun hb => ?_) | refine AW.go ?_ | fail)
 ·exfalso; simp only [dT] at hb; omega
 exact AW.retv rfl ⟨rfl, rfl⟩
def bsx : ByteArray := ⟨#[120]⟩
def bsy : ByteArray := ⟨#[121]⟩
def alF : GFml := ⟨3, 0, empB, [], [], [⟨6, 0, empB, [bsx], [], [⟨4, 0, empB, [], [], [⟨0, 0, ⟨#[69]⟩, [], [bsx, bsy], []⟩, ⟨3, 0, empB, [], [], [⟨0, 0, ⟨#[80]⟩, [], [bsx], []⟩]⟩]⟩]⟩]⟩
def alG : GFml := ⟨7, 0, empB, [bsx], [], [⟨5, 0, empB, [], [], [⟨3, 0, empB, [], [], [⟨0, 0, ⟨#[69]⟩, [], [bsx, bsy], []⟩]⟩, ⟨0, 0, ⟨#[80]⟩, [], [bsx], []⟩]⟩]⟩
def alT : List UInt8 := [97, 108, 108, 40, 120, 58, 32, 111, 114, 40, 110, 111, 116, 40, 69, 40, 120, 32, 121, 41, 41, 44, 32, 80, 40, 120, 41, 41, 41]
theorem al_valid : validF alF = true := by kernel_rfl
theorem al_validG : validF alG = true := by kernel_rfl
theorem al_nnf : nnF alF false = alG := rfl
theorem al_tx : txA alG = bytesAV ⟨alT.toArray⟩ := by kernel_rfl
theorem al_w : wOk alG = true := by kernel_rfl
theorem al_ok : alF.Ok := by
 have hl : ∀ (l : List ByteArray), l.length ≤ 2 → (∀ s ∈ l, s.size ≤ 2) → lenOk 16 strOk l := fun l h1 h2 => ⟨by omega, fun s hs => by have := h2 s hs; show s.size ≤ _; omega⟩
 have hs : ∀ (s : ByteArray), s.size ≤ 2 → strOk s := fun s h => by show s.size ≤ _; omega
 have hb : ∀ s ∈ ([bsx, bsy] : List ByteArray), s.size ≤ 2 := by intro s h; simp at h; rcases h with rfl | rfl <;> decide
 have hb1 : ∀ s ∈ ([bsx] : List ByteArray), s.size ≤ 2 := by intro s h; simp at h; subst h; decide
 have hb0 : ∀ s ∈ ([] : List ByteArray), s.size ≤ 2 := by intro s h; cases h
 refine .mk ⟨rfl, rfl, hs _ (by decide), hl _ (by decide) hb0, hl _ (by decide) hb0⟩ (by decide) fun x hx => ?_
 obtain rfl := List.mem_singleton.1 hx
 refine .mk ⟨rfl, rfl, hs _ (by decide), hl _ (by decide) hb1, hl _ (by decide) hb0⟩ (by decide) fun x hx => ?_
 obtain rfl := List.mem_singleton.1 hx
 refine .mk ⟨rfl, rfl, hs _ (by decide), hl _ (by decide) hb0, hl _ (by decide) hb0⟩ (by decide) fun x hx => ?_
 rcases List.mem_cons.1 hx with rfl | hx
 ·exact .mk ⟨rfl, rfl, hs _ (by decide), hl _ (by decide) hb0, hl _ (by decide) hb⟩ (by decide) fun x hx => by cases hx
 obtain rfl := List.mem_singleton.1 hx
 refine .mk ⟨rfl, rfl, hs _ (by decide), hl _ (by decide) hb0, hl _ (by decide) hb0⟩ (by decide) fun x hx => ?_
 obtain rfl := List.mem_singleton.1 hx
 exact .mk ⟨rfl, rfl, hs _ (by decide), hl _ (by decide) hb0, hl _ (by decide) hb1⟩ (by decide) fun x hx => by cases hx
theorem P_cons {P : AV → Prop} {y : AV} {l : List AV} (h : P y) (k : ∀ x ∈ l, P x) : ∀ x ∈ y :: l, P x := fun x hx => (List.mem_cons.1 hx).elim (fun e => e ▸ h) (k x)
theorem alive : Tri Tryz.prog 12 [] [] (D (.bool true) []) := by
 have hN := n_Nnf alF al_ok
 have hn : nnfP alF = (alG, 0) := by rw [nnfP, al_valid, cond_true, al_nnf, fitF, al_validG, cond_true]
 rw [hn] at hN
 have hT := f_Text alG (by rw [← al_nnf]; exact nn_ok _ _ al_ok) al_validG al_w (by decide) alT al_tx (by decide) (by decide)
 refine Tri.enter 37 Tryz.func12 rfl rfl rfl rfl fun Fr w0 => ?_
 repeat' (first | refine AW.re 0 1 ?_ | (refine AW.r 1 ?_; (refine AL.d (AOp.lit (t := 22) (e := 9) (sz := 1) (by kernel_rfl) rfl rfl rfl (by repeat' first | exact P_nil | refine P_cons rfl ?_) (by decide)) ?_) <;> (refine AL.d (AOp.lit (t := 22) (e := 9) (sz := 1) (by kernel_rfl) rfl rfl rfl (by repeat' first | exact P_nil | refine P_cons rfl ?_) (by decide)) ?_) <;> refine AL.d (AOp.build (pl := [(0, 1), (1, 1), (2, 1), (3, 1), (4, 1), (5, 1)]) (z := .st [.int .i64 0, .int .i64 0, .str ⟨#[]⟩, .sl [], .sl [], .sl []]) (by kernel_rfl) rfl rfl rfl) ?_ <;> (refine AL.d (AOp.lit (t := 22) (e := 9) (sz := 1) (by kernel_rfl) rfl rfl rfl (by repeat' first | exact P_nil | refine P_cons rfl ?_) (by decide)) ?_) <;> refine AL.d (AOp.build (pl := [(0, 1), (1, 1), (2, 1), (3, 1), (4, 1), (5, 1)]) (z := .st [.int .i64 0, .int .i64 0, .str ⟨#[]⟩, .sl [], .sl [], .sl []]) (by kernel_rfl) rfl rfl rfl) ?_ <;> (refine AL.d (AOp.lit (t := 23) (e := 25) (sz := 6) (by kernel_rfl) rfl rfl rfl (by repeat' first | exact P_nil | refine P_cons rfl ?_) (by decide)) ?_) <;> refine AL.d (AOp.build (pl := [(0, 1), (1, 1), (2, 1), (3, 1), (4, 1), (5, 1)]) (z := .st [.int .i64 0, .int .i64 0, .str ⟨#[]⟩, .sl [], .sl [], .sl []]) (by kernel_rfl) rfl rfl rfl) ?_ <;> (refine AL.d (AOp.lit (t := 23) (e := 25) (sz := 6) (by kernel_rfl) rfl rfl rfl (by repeat' first | exact P_nil | refine P_cons rfl ?_) (by decide)) ?_) <;> refine AL.d (AOp.build (pl := [(0, 1), (1, 1), (2, 1), (3, 1), (4, 1), (5, 1)]) (z := .st [.int .i64 0, .int .i64 0, .str ⟨#[]⟩, .sl [], .sl [], .sl []]) (by kernel_rfl) rfl rfl rfl) ?_ <;> (refine AL.d (AOp.lit (t := 23) (e := 25) (sz := 6) (by kernel_rfl) rfl rfl rfl (by repeat' first | exact P_nil | refine P_cons rfl ?_) (by decide)) ?_) <;> refine AL.d (AOp.build (pl := [(0, 1), (1, 1), (2, 1), (3, 1), (4, 1), (5, 1)]) (z := .st [.int .i64 0, .int .i64 0, .str ⟨#[]⟩, .sl [], .sl [], .sl []]) (by kernel_rfl) rfl rfl rfl) ?_ <;> (refine AL.d (AOp.lit (t := 23) (e := 25) (sz := 6) (by kernel_rfl) rfl rfl rfl (by repeat' first | exact P_nil | refine P_cons rfl ?_) (by decide)) ?_) <;> refine AL.d (AOp.build (pl := [(0, 1), (1, 1), (2, 1), (3, 1), (4, 1), (5, 1)]) (z := .st [.int .i64 0, .int .i64 0, .str ⟨#[]⟩, .sl [], .sl [], .sl []]) (by kernel_rfl) rfl rfl rfl) ?_ <;> refine AL.d (AOp.call rfl rfl hN) ?_ <;> refine AL.es 3 ?_ <;> refine AL.alloc_store (by kernel_rfl) rfl rfl rfl rfl ?_ <;> refine AL.es 1 ?_ <;> refine AL.nil ?_) | refine AW.go ?_ | fail)
 repeat' (first | (refine xS 2 1 ?_; refine AL.d (AOp.call rfl rfl hT) ?_; refine xN 5 ?_) | (refine xS 3 3 ?_; refine AL.es 4 ?_; refine xN 4 ?_) | fail)
 exact AW.retv rfl ⟨retB (by rw [toList_beq]; exact (decide_eq_true rfl).symm), rfl⟩
theorem few_one (most : Int) (hm : 0 ≤ most ∧ most ≤ 1000000) (f : GFml) (ho : f.Ok) : Tri Tryz.prog 9 [.int .i64 most, .sl [f.st]] [] (D (.bool (decide (wFs most [f] 0 ≤ most))) []) := by
 have h := law_Few most hm [f] (by simp) (by intro x hx; rw [List.mem_singleton.1 hx]; exact ho)
 rw [List.map_cons, List.map_nil, GFml.av_eq] at h
 exact h
theorem rules_v1 (k : Int) : (rulesP k).v1 ≤ 24 := by
 unfold rulesP
 repeat' split
 all_goals decide
theorem shaped_vars {f : GFml} (h : shapedP f = true) : f.Vars.length ≤ 24 := by
 simp only [shapedP, shp3, bA, dT] at h
 have h1 := h.2.1.2.1.2
 have h2 := rules_v1 f.Kind
 omega
theorem rules_a1 (k : Int) : (rulesP k).a1 ≤ 24 := by
 unfold rulesP
 repeat' split
 all_goals decide
theorem shaped_args {f : GFml} (h : shapedP f = true) : f.Args.length ≤ 24 := by
 simp only [shapedP, shp3, bA, dT] at h
 have h1 := h.2.1.1.1.2
 have h2 := rules_a1 f.Kind
 omega
def addV (out : List ByteArray) (v : ByteArray) : List ByteArray := if (out.any fun x => decide (x = v)) = true then out else out ++ [v]
def addVs : List ByteArray → List ByteArray → List ByteArray
 | [], out => out
 | v :: l, out => addVs l (addV out v)
mutual
def vrF : GFml → List ByteArray → List ByteArray
 | ⟨_, _, _, vars, args, kids⟩, out => vrL kids (addVs args (addVs vars out))
def vrL : List GFml → List ByteArray → List ByteArray
 | [], out => out
 | x :: l, out => vrL l (vrF x out)
end
theorem addV_len (out : List ByteArray) (v : ByteArray) : (addV out v).length ≤ out.length + 1 := by
 unfold addV; split <;> simp
theorem addVs_len : ∀ (l out : List ByteArray), (addVs l out).length ≤ out.length + l.length
 | [], out => by simp [addVs]
 | v :: l, out => by
  have h1 := addV_len out v
  have h2 := addVs_len l (addV out v)
  rw [addVs, List.length_cons]; omega
mutual
theorem vrF_len : ∀ (f : GFml) (out : List ByteArray), shsF f = true → (vrF f out).length ≤ out.length + 48 * ndF f
 | ⟨k, ar, nm, vars, args, kids⟩, out, h => by
  rw [shsF, bA] at h
  have h1 := shaped_vars h.2
  have h2 := shaped_args h.2
  have h3 := addVs_len vars out
  have h4 := addVs_len args (addVs vars out)
  have h5 := vrL_len kids (addVs args (addVs vars out)) h.1
  simp only at h1 h2
  rw [vrF, ndF]; omega
theorem vrL_len : ∀ (l : List GFml) (out : List ByteArray), shsFs l = true → (vrL l out).length ≤ out.length + 48 * ndFs l
 | [], out, h => by rw [vrL, ndFs]; omega
 | x :: l, out, h => by
  rw [shsFs, bA] at h
  have h1 := vrF_len x out h.1
  have h2 := vrL_len l (vrF x out) h.2
  rw [vrL, ndFs]; omega
end
def bmap (out : List ByteArray) : List (ByteArray × Bool) := out.map fun s => (s, true)
theorem setA_bmap (v : ByteArray) : ∀ out : List ByteArray, setA (bmap out) v true = bmap (addV out v)
 | [] => rfl
 | s :: out => by
  have ih := setA_bmap v out
  simp only [bmap, List.map_cons, setA] at ih ⊢
  unfold addV at ih ⊢
  by_cases e : v = s
  ·subst e; simp
  ·rw [if_neg e, ih, List.any_cons, decide_eq_false (fun h => e h.symm), Bool.false_or]
   split <;> simp
theorem n_vars : ∀ (N : Nat) (f : GFml) (out : List ByteArray) (mb : Nat) (g : MG), ndF f ≤ N → f.Ok →
  Tri Tryz.prog 60 [f.st, .map mb] [.map mb (kvW bav (bmap out)) g] (fun x h => x = .ret (.tup []) ∧ ∃ g', h = [.map mb (kvW bav (bmap (vrF f out))) g']) := by
 intro N
 induction N using Nat.strongRecOn with
 | _ N ih =>
  intro f out mb g hN ho
  have hnd := ndF_eq f
  obtain ⟨⟨_, _, _, q4, q5⟩, q6, q7⟩ := ho
  have l4 := q4.1
  have l5 := q5.1
  obtain ⟨k, ar, nm, vars, args, kids⟩ := f
  rw [vrF]
  simp only at *
  refine Tri.enter 41 Tryz.func60 rfl rfl rfl rfl fun Fr w0 => ?_
  repeat' (first | (refine AW.r 0 ?_; (refine AL.d (AOp.box_ro (v := .st [.int .i64 k, .int .i64 ar, .str nm, strs vars, strs args, .sl (kids.map GFml.av)]) rfl rfl) ?_) <;> refine AL.nil ?_) | (refine xS 1 4 ?_; refine AL.d (AOp.lit (t := 143) (e := 22) (sz := 1) (by kernel_rfl) rfl rfl rfl (by simp [AV.size, strs]) (by decide)) ?_; refine xN 2 ?_) | refine AW.go ?_ | fail)
  refine AW.prune [1, 2, 14, 15, 16] (AW.loop (fun mz af h => ∃ (i : Nat) (o : List ByteArray) (gg : MG), i ≤ 2 ∧ mz = 2 - i ∧ af = [(1, .map mb), (2, .at (.st [.int .i64 k, .int .i64 ar, .str nm, strs vars, strs args, .sl (kids.map GFml.av)])), (14, .sl ([vars, args].map strs)), (15, .int .i64 ([vars, args].map strs).length), (16, .int .i64 i)] ∧ h = [.map mb (kvW bav (bmap o)) gg] ∧ addVs args (addVs vars out) = ([vars, args].drop i).foldl (fun o l => addVs l o) o) 2 ⟨0, out, g, Nat.zero_le _, rfl, rfl, rfl, rfl⟩ ?_)
  rintro mz af h ⟨i, o, gg, hi, rfl, rfl, rfl, he⟩
  refine AW.seq ?_
  by_cases hlt : i < 2
  ·obtain ⟨l, hl⟩ : ∃ l, [vars, args][i]? = some l := get_lt (by simpa using hlt)
   have hl' : ([vars, args].map strs)[((i : Nat) : Int).toNat]? = some (strs l) := map_get hl
   have hll : l.length ≤ 8796093022208 := by
    have := lG hl
    simp only [List.mem_cons, List.not_mem_nil, or_false] at this
    rcases this with rfl | rfl <;> omega
   rw [drop_cons hl, List.foldl_cons] at he
   obtain ⟨I0, hI0⟩ : ∃ j : Nat, j = i := ⟨i, rfl⟩
   subst hI0
   have hlt0 := hlt
   have he0 := he
   repeat' (first | refine AW.re 2 1 ?_ | refine AW.jj (fun hb => ?_) (fun hb => ?_) | refine AW.go ?_ | fail)
   all_goals try (exfalso; simp only [dT, dF, lM, List.length_cons, List.length_nil] at *; omega)
   repeat' (first | (refine AW.r 3 ?_; refine AL.d (iX hl') ?_; refine xN 2 ?_) | refine AW.re 4 3 ?_ | refine AW.go ?_ | fail)
   refine AW.prune [1, 2, 14, 15, 16, 20, 21, 22] (AW.loop (fun mz af h => ∃ (i : Nat) (o2 : List ByteArray) (g2 : MG), i ≤ l.length ∧ mz = l.length - i ∧ af = [(1, .map mb), (2, .at (.st [.int .i64 k, .int .i64 ar, .str nm, strs vars, strs args, .sl (kids.map GFml.av)])), (14, .sl ([vars, args].map strs)), (15, .int .i64 ([vars, args].map strs).length), (16, .int .i64 I0), (20, strs l), (21, .int .i64 (l.map AV.str).length), (22, .int .i64 i)] ∧ h = [.map mb (kvW bav (bmap o2)) g2] ∧ addVs l o = addVs (l.drop i) o2) l.length ⟨0, o, gg, Nat.zero_le _, rfl, rfl, rfl, rfl⟩ ?_)
   rintro mz af h ⟨i, o2, g2, hi, rfl, rfl, rfl, he⟩
   refine AW.seq ?_
   by_cases hlt : i < l.length
   ·obtain ⟨x, hx⟩ := get_lt hlt
    have hx' : (l.map AV.str)[((i : Nat) : Int).toNat]? = some (.str x) := map_get hx
    rw [drop_cons hx, addVs] at he
    repeat' (first | refine AW.re 5 1 ?_ | (refine AW.r 6 ?_; refine AL.d (iX hx') ?_; refine xN 2 ?_) | (refine xS 7 2 ?_; refine AL.setS 0 4 bav true rfl rfl rfl rfl (by kernel_rfl) ?_; refine AL.nil ?_) | (refine AW.r 8 ?_; refine AL.d AOp.ad ?_; refine xN 1 ?_) | refine AW.jj (fun hb => ?_) (fun hb => ?_) | refine AW.go ?_ | fail)
    all_goals try (exfalso; simp only [dT, dF, lM] at *; omega)
    rw [setA_bmap]
    refine AW.again_keep (l.length - (i + 1)) [1, 2, 14, 15, 16, 20, 21, 22] (by omega) ⟨i + 1, addV o2 x, _, hlt, rfl, rfl, rfl, ?_⟩
    exact he
   ·rw [List.drop_eq_nil_of_le (by omega), addVs] at he
    repeat' (first | refine AW.re 5 1 ?_ | (refine AW.r 9 ?_; refine AL.d AOp.ad ?_; refine xN 1 ?_) | refine AW.jj (fun hb => ?_) (fun hb => ?_) | refine AW.go ?_ | fail)
    all_goals try (exfalso; simp only [dT, dF, lM] at *; omega)
    rw [he] at he0
    exact AW.again_keep (2 - (I0 + 1)) [1, 2, 14, 15, 16] (by omega) ⟨I0 + 1, o2, g2, hlt0, rfl, rfl, rfl, he0⟩
  ·have hi2 : i = 2 := by omega
   subst hi2
   have he : addVs args (addVs vars out) = o := he
   rw [he]
   clear hlt hi
   repeat' (first | refine AW.re 2 1 ?_ | refine AW.jf ?_ | refine AW.go ?_ | fail)
   all_goals try (exfalso; simp only [dT, dF, lM, List.length_cons, List.length_nil] at *; omega)
   repeat' (first | refine AW.re 10 4 ?_ | refine AW.go ?_ | fail)
   refine AW.prune [1, 31, 32, 33] (AW.loop (fun mz af h => ∃ (i : Nat) (o2 : List ByteArray) (g2 : MG), i ≤ kids.length ∧ mz = kids.length - i ∧ af = [(1, .map mb), (31, .sl (kids.map GFml.av)), (32, .int .i64 (kids.map GFml.av).length), (33, .int .i64 i)] ∧ h = [.map mb (kvW bav (bmap o2)) g2] ∧ vrL kids o = vrL (kids.drop i) o2) kids.length ⟨0, o, gg, Nat.zero_le _, rfl, rfl, rfl, rfl⟩ ?_)
   rintro mz af h ⟨i, o2, g2, hi, rfl, rfl, rfl, he⟩
   refine AW.seq ?_
   by_cases hlt : i < kids.length
   ·obtain ⟨x, hx⟩ := get_lt hlt
    have hx' : (kids.map GFml.av)[((i : Nat) : Int).toNat]? = some (x.st) := GFml.get hx
    have hxm := lG hx
    have hnx := ndFs_mem hxm
    have hc := ih (ndF x) (by omega) x o2 mb g2 (Nat.le_refl _) (q7 x hxm)
    rw [drop_cons hx, vrL] at he
    repeat' (first | refine AW.re 11 1 ?_ | (refine AW.r 12 ?_; refine AL.d (iX hx') ?_; refine AL.es 1 ?_; refine AL.alloc_store (by kernel_rfl) rfl rfl rfl rfl ?_; refine AL.nil ?_) | refine AW.jj (fun hb => ?_) (fun hb => ?_) | refine AW.go ?_ | fail)
    all_goals try (exfalso; simp only [dT, dF, lM] at *; omega)
    repeat' (first | (refine xS 13 2 ?_; (refine AL.callQ rfl rfl hc rfl ?_ ?_; rotate_left; rintro _ _ ⟨e, _⟩; cases e; rintro _ _ ⟨e, g3, rfl⟩; injection e with e; subst e) <;> refine AL.nil ?_) | refine AW.go ?_ | fail)
    repeat' (first | (refine AW.r 14 ?_; refine AL.d AOp.ad ?_; refine xN 1 ?_) | fail)
    refine AW.again_keep (kids.length - (i + 1)) [1, 31, 32, 33] (by omega) ⟨i + 1, vrF x o2, g3, hlt, rfl, rfl, rfl, ?_⟩
    exact he
   ·rw [List.drop_eq_nil_of_le (by omega), vrL] at he
    rw [he]
    repeat' (first | refine AW.re 11 1 ?_ | refine AW.jj (fun hb => ?_) (fun hb => ?_) | refine AW.go ?_ | fail)
    all_goals try (exfalso; simp only [dT, dF, lM] at *; omega)
    exact AW.donev rfl ⟨rfl, _, rfl⟩
def has (l : List ByteArray) (s : ByteArray) : Bool := l.any fun x => decide (x = s)
theorem Among_has (xs : List ByteArray) (hl : xs.length ≤ 4611686018427387904) (s : ByteArray) : Tri Tryz.prog 17 [strs xs, .str s] [] (D (.bool (has xs s)) []) := ref_Among xs s hl
def rnV (M : List (ByteArray × ByteArray)) (v : ByteArray) : ByteArray := (lookA M v).getD v
theorem n_renamed (M : List (ByteArray × ByteArray)) (mb : Nat) (g : MG) (l : List ByteArray) (hl : l.length ≤ 8796093021952) :
  Tri Tryz.prog 100 [strs l, .map mb] [.map mb (kvW AV.str M) g] (D (strs (l.map (rnV M))) [.map mb (kvW AV.str M) g]) := by
 refine Tri.enter 30 Tryz.func100 rfl rfl rfl rfl fun Fr w0 => ?_
 repeat' (first | (refine AW.r 0 ?_; refine AL.d AOp.assign_nil ?_; refine AL.nil ?_) | (refine AW.r 1 ?_; refine AL.d AOp.assign_nil ?_; refine AL.nil ?_) | (refine AW.r 2 ?_; refine AL.e ?_; refine AL.es 1 ?_; refine AL.e ?_; refine AL.nil ?_) | refine AW.go ?_ | fail)
 refine AW.own_nil 1 ?_
 refine AW.prune [1, 5, 10, 11, 12] (AW.loop (fun mz af h => ∃ (i : Nat) (o : List ByteArray) (tt : Option Nat) (cc : Nat), i ≤ l.length ∧ mz = l.length - i ∧ af = [(1, .map mb), (5, .slt (o.map AV.str) tt cc), (10, strs l), (11, .int .i64 (l.map AV.str).length), (12, .int .i64 i)] ∧ h = [.tail tt (o.map AV.str).length cc 1, .map mb (kvW AV.str M) g] ∧ o = (l.take i).map (rnV M)) l.length ⟨0, [], none, 0, Nat.zero_le _, rfl, rfl, rfl, by simp⟩ ?_)
 rintro mz af h ⟨i, o, tt, cc, hi, rfl, rfl, rfl, he⟩
 refine AW.seq ?_
 by_cases hlt : i < l.length
 ·obtain ⟨x, hx⟩ := get_lt hlt
  have hx' : (l.map AV.str)[((i : Nat) : Int).toNat]? = some (.str x) := map_get hx
  have hol : o.length ≤ 8796093021952 := by rw [he]; simp; omega
  have hm : (o ++ [rnV M x]).map AV.str = o.map AV.str ++ [.str (rnV M x)] := by simp
  repeat' (first | refine AW.re 3 1 ?_ | (refine AW.r 4 ?_; refine AL.d (iX hx') ?_; refine xN 2 ?_) | refine AW.jj (fun hb => ?_) (fun hb => ?_) | refine AW.go ?_ | fail)
  all_goals try (exfalso; simp only [dT, dF, lM] at *; omega)
  cases hL : lookA M x with
  | none =>
   have hr : rnV M x = x := by rw [rnV, hL]; rfl
   rw [hr] at hm
   repeat' (first | (refine xS 5 2 ?_; refine AL.d (AOp.lookS_miss 1 9 (.string ⟨#[]⟩) (ok := true) hL rfl rfl rfl (by kernel_rfl) (by kernel_rfl)) ?_; refine xN 5 ?_) | refine AW.re 6 1 ?_ | (refine xS 8 2 ?_; refine AL.d (AOp.lit (e := 9) (sz := 1) (by kernel_rfl) rfl rfl rfl (P_one rfl) (by decide)) ?_; refine AL.append (i := 0) (xs := o.map AV.str) (e := 9) (sz := 1) (bytes := 16) rfl rfl rfl rfl (by kernel_rfl) (by kernel_rfl) (P_map fun _ => rfl) (P_one rfl) rfl (by simp only [lM]; simp; omega) (by simp only [lM]; simp; omega) rfl fun b' c' => ?_ <;> refine AL.es 1 ?_ <;> refine AL.nil ?_) | (refine AW.r 9 ?_; refine AL.d AOp.ad ?_; refine xN 1 ?_) | refine AW.jf ?_ | fail)
   rw [← hm]
   refine AW.frame_eq rfl (show _ = [Own.tail b' ((o ++ [x]).map AV.str).length c' 1, .map mb (kvW AV.str M) g] from by rw [hm]; rfl) ?_
   refine AW.again_keep (l.length - (i + 1)) [1, 5, 10, 11, 12] (by omega) ⟨i + 1, o ++ [x], b', c', hlt, rfl, rfl, rfl, ?_⟩
   rw [he, List.take_add_one, hx]; simp [hr]
  | some w =>
   have hr : rnV M x = w := by rw [rnV, hL]; rfl
   rw [hr] at hm
   repeat' (first | (refine xS 5 2 ?_; refine AL.d (AOp.lookS_hit 1 9 (g := AV.str) (ok := true) hL rfl rfl rfl (by kernel_rfl)) ?_; refine xN 5 ?_) | refine AW.re 6 1 ?_ | refine AW.re 7 2 ?_ | (refine xS 8 2 ?_; refine AL.d (AOp.lit (e := 9) (sz := 1) (by kernel_rfl) rfl rfl rfl (P_one rfl) (by decide)) ?_; refine AL.append (i := 0) (xs := o.map AV.str) (e := 9) (sz := 1) (bytes := 16) rfl rfl rfl rfl (by kernel_rfl) (by kernel_rfl) (P_map fun _ => rfl) (P_one rfl) rfl (by simp only [lM]; simp; omega) (by simp only [lM]; simp; omega) rfl fun b' c' => ?_ <;> refine AL.es 1 ?_ <;> refine AL.nil ?_) | (refine AW.r 9 ?_; refine AL.d AOp.ad ?_; refine xN 1 ?_) | refine AW.jt ?_ | fail)
   rw [← hm]
   refine AW.frame_eq rfl (show _ = [Own.tail b' ((o ++ [w]).map AV.str).length c' 1, .map mb (kvW AV.str M) g] from by rw [hm]; rfl) ?_
   refine AW.again_keep (l.length - (i + 1)) [1, 5, 10, 11, 12] (by omega) ⟨i + 1, o ++ [w], b', c', hlt, rfl, rfl, rfl, ?_⟩
   rw [he, List.take_add_one, hx]; simp [hr]
 ·have ho2 : o = l.map (rnV M) := by rw [he, List.take_of_length_le (by omega)]
  subst ho2
  repeat' (first | refine AW.re 3 1 ?_ | refine AW.jj (fun hb => ?_) (fun hb => ?_) | refine AW.go ?_ | fail)
  all_goals try (exfalso; simp only [dT, dF, lM] at *; omega)
  refine AW.as_sl 5 rfl ?_
  repeat' (first | refine AW.re 10 2 ?_ | fail)
  exact AW.ret_drop rfl (List.sublist_cons_self _ _) ⟨rfl, rfl⟩
theorem n_with0 (f : GFml) (ho : f.Ok) : Tri Tryz.prog 99 [f.st, nilS] [] (D (.st [.int .i64 f.Kind, .int .i64 f.Arity, .str f.Name, strs f.Vars, strs f.Args, nilS]) []) := by
 obtain ⟨⟨_, _, _, h4, h5⟩, h6, h7⟩ := ho
 have hv := Clone_str f.Vars (by have := h4.1; omega)
 have ha := Clone_str f.Args (by have := h5.1; omega)
 obtain ⟨k, ar, nm, vars, args, kids0⟩ := f
 simp only at *
 refine Tri.enter 16 Tryz.func99 rfl rfl rfl rfl fun Fr w0 => ?_
 repeat' (first | (refine AW.r 0 ?_; refine AL.box rfl rfl rfl fun b => ?_; refine AL.alloc_z (t := 25) zF (by kernel_rfl) rfl rfl fun r => ?_; refine AL.nil ?_) | refine AW.go ?_ | fail)
 repeat' (first | (refine AW.ex 1 [false, true] [8, 10, 12] ?_; refine AQE.p rfl (AOp.fr 3) ?_; refine AQE.pe rfl (AOp.ll 0) ?_; refine AQE.p rfl (AOp.call rfl rfl (hv.pure _)) ?_; refine AQE.p rfl (AOp.fr 4) ?_; refine AQE.pe rfl (AOp.ll 0) ?_; refine AQE.p rfl (AOp.call rfl rfl (ha.pure _)) ?_; refine AQE.e ?_; refine AQE.p rfl (AOp.fr 3) ?_; refine AQE.hl ?_; refine AQE.p rfl (AOp.fr 4) ?_; refine AQE.hl ?_; refine AQE.p rfl (AOp.fr 5) ?_; refine AQE.hl ?_; refine AQE.nil ?_; refine AX.o (n := 2) 8 ?_; refine AXO.sl 0 fun _ => ?_; try dsimp only [sA, sB, sC, sD] <;> refine AX.o (n := 1) 10 ?_ <;> (refine AXO.sl 0 fun _ => ?_) <;> try dsimp only [sA, sB, sC, sD] <;> refine AX.o (n := 0) 12 ?_ <;> (refine AXO.sl 0 fun _ => ?_) <;> try dsimp only [sA, sB, sC, sD] <;> refine AX.done_keep [0, 2, 4, 15, 25] ?_) | refine AW.go ?_ | fail)
 refine AW.prune [2, 4] ?_
 repeat' (first | (refine AW.r 2 ?_; refine AL.d (AOp.lw 0) ?_; refine AL.sl 1 ?_; refine AL.nil ?_) | fail)
 exact AW.retc (.cell 1 rfl rfl (by kernel_rfl) .nil) (List.nil_sublist _) ⟨rfl, rfl⟩
abbrev SP := Option (ByteArray × ByteArray)
def SP.m (o : SP) : List (ByteArray × ByteArray) := o.toList
theorem wk_nil : Wk (.val (.slice none 0 0)) (.slt [] none 0) := fun S w cs h => by
 simp only [RelC] at h ⊢
 exact ⟨by rw [h]; rfl, by simp, by simp, by simp⟩
mutual
def erF : GFml → GFml
 | ⟨k, ar, nm, vars, args, kids⟩ => ⟨k, ar, nm, vars.map fun _ => empB, args.map fun _ => empB, erL kids⟩
def erL : List GFml → List GFml
 | [] => []
 | x :: l => erF x :: erL l
end
mutual
theorem er_nd : ∀ f : GFml, ndF (erF f) = ndF f
 | ⟨k, ar, nm, vars, args, kids⟩ => by rw [erF, ndF, ndF, er_ndL kids]
theorem er_ndL : ∀ l : List GFml, ndFs (erL l) = ndFs l
 | [] => by rw [erL]
 | x :: l => by rw [erL, ndFs, ndFs, er_nd x, er_ndL l]
end
theorem er_binds (k ar : Int) (nm : ByteArray) (v1 v2 a1 a2 : List ByteArray) (k1 k2 : List GFml) : bindsB ⟨k, ar, nm, v1, a1, k1⟩ = bindsB ⟨k, ar, nm, v2, a2, k2⟩ := rfl
mutual
theorem er_oc : ∀ (f : GFml) (bd : List ByteArray) (out : List GSym), ocF (erF f) bd out = ocF f bd out
 | ⟨k, ar, nm, vars, args, kids⟩, bd, out => by
  rw [erF, ocF, ocF, er_ocL kids, er_binds k ar nm _ vars _ args _ kids, lM]
theorem er_ocL : ∀ (l : List GFml) (bd : List ByteArray) (out : List GSym), ocFs (erL l) bd out = ocFs l bd out
 | [], bd, out => by rw [erL]
 | x :: l, bd, out => by rw [erL, ocFs, ocFs, er_oc x, er_ocL l]
end
theorem namesG_all (l : List ByteArray) : ∀ pre, namesG true false pre l = l.all nameB := by
 induction l with
 | nil => intro pre; rfl
 | cons x l ih => intro pre; rw [namesG, ih, List.all_cons]; cases nameB x <;> rfl
theorem map_const {α β : Type} (g : α → α) (c : β) (l : List α) : (l.map g).map (fun _ => c) = l.map fun _ => c := by rw [List.map_map]; rfl
end Go.Proofs.YtlpndgodkkndnaaGreatDoor
namespace Go.Proofs
open Go.Shelf
def Tryz.laysM171_ren : Go.Shelf.Ren := ⟨fun | 171 => 146 | 243 => 168 | 246 => 189 | 283 => 209 | 284 => 210 | 285 => 211 | 286 => 212 | 129 => 207 | 317 => 222 | 318 => 223 | 319 => 224 | 320 => 225 | 337 => 227 | 338 => 228 | n => n, fun | 3 => 3 | 9 => 9 | 2 => 2 | 4 => 4 | 171 => 240 | 0 => 0 | 53 => 238 | 37 => 121 | 5 => 5 | 173 => 242 | 212 => 253 | 51 => 236 | 20 => 20 | 213 => 254 | 46 => 214 | 232 => 258 | 233 => 259 | n => n, fun | 17 => 1 | 18 => 2 | 19 => 3 | n => n⟩
theorem Tryz.laysM171 : Go.Proofs.LaysM.n171 Tryz.prog Tryz.laysM171_ren := {
 mixed := by kernel_rfl
 f129 := Tryz.func207.trans (congrArg some (by kernel_rfl))
 f171 := Tryz.func146.trans (congrArg some (by kernel_rfl))
 f243 := Tryz.func168.trans (congrArg some (by kernel_rfl))
 f246 := Tryz.func189.trans (congrArg some (by kernel_rfl))
 f283 := Tryz.func209.trans (congrArg some (by kernel_rfl))
 f284 := Tryz.func210.trans (congrArg some (by kernel_rfl))
 f285 := Tryz.func211.trans (congrArg some (by kernel_rfl))
 f286 := Tryz.func212.trans (congrArg some (by kernel_rfl))
 f317 := Tryz.func222.trans (congrArg some (by kernel_rfl))
 f318 := Tryz.func223.trans (congrArg some (by kernel_rfl))
 f319 := Tryz.func224.trans (congrArg some (by kernel_rfl))
 f320 := Tryz.func225.trans (congrArg some (by kernel_rfl))
 f337 := Tryz.func227.trans (congrArg some (by kernel_rfl))
 f338 := Tryz.func228.trans (congrArg some (by kernel_rfl))
 t0 := Tryz.underlying0
 a0 := Tryz.isAgg0
 z0 := Tryz.sizeOf0
 v0 := Tryz.zeroValue0
 t2 := Tryz.underlying2
 a2 := Tryz.isAgg2
 z2 := Tryz.sizeOf2
 v2 := Tryz.zeroValue2
 t3 := Tryz.underlying3
 a3 := Tryz.isAgg3
 z3 := Tryz.sizeOf3
 v3 := Tryz.zeroValue3
 t4 := Tryz.underlying4
 a4 := Tryz.isAgg4
 z4 := Tryz.sizeOf4
 v4 := Tryz.zeroValue4
 t5 := Tryz.underlying5
 a5 := Tryz.isAgg5
 z5 := Tryz.sizeOf5
 v5 := Tryz.zeroValue5
 t9 := Tryz.underlying9
 a9 := Tryz.isAgg9
 z9 := Tryz.sizeOf9
 v9 := Tryz.zeroValue9
 t20 := Tryz.underlying20
 a20 := Tryz.isAgg20
 z20 := Tryz.sizeOf20
 v20 := Tryz.zeroValue20
 t37 := Tryz.underlying121
 a37 := Tryz.isAgg121
 z37 := Tryz.sizeOf121
 v37 := Tryz.zeroValue121
 t46 := Tryz.underlying214
 a46 := Tryz.isAgg214
 z46 := Tryz.sizeOf214
 v46 := Tryz.zeroValue214
 t51 := Tryz.underlying236
 a51 := Tryz.isAgg236
 z51 := Tryz.sizeOf236
 v51 := Tryz.zeroValue236
 t53 := Tryz.underlying238
 a53 := Tryz.isAgg238
 z53 := Tryz.sizeOf238
 v53 := Tryz.zeroValue238
 t171 := Tryz.underlying240
 a171 := Tryz.isAgg240
 z171 := Tryz.sizeOf240
 v171 := Tryz.zeroValue240
 t173 := Tryz.underlying242
 a173 := Tryz.isAgg242
 z173 := Tryz.sizeOf242
 v173 := Tryz.zeroValue242
 t212 := Tryz.underlying253
 a212 := Tryz.isAgg253
 z212 := Tryz.sizeOf253
 v212 := Tryz.zeroValue253
 t213 := Tryz.underlying254
 a213 := Tryz.isAgg254
 z213 := Tryz.sizeOf254
 t232 := Tryz.underlying258
 a232 := Tryz.isAgg258
 z232 := Tryz.sizeOf258
 v232 := Tryz.zeroValue258
 t233 := Tryz.underlying259
 a233 := Tryz.isAgg259
 z233 := Tryz.sizeOf259
 v233 := Tryz.zeroValue259
 g17 := by kernel_rfl
 g18 := by kernel_rfl
 g19 := by kernel_rfl
 i0 := by kernel_rfl
 i2 := by kernel_rfl
 i3 := by kernel_rfl
 i4 := by kernel_rfl
 i5 := by kernel_rfl
 i9 := by kernel_rfl
 i20 := by kernel_rfl
 i37 := by kernel_rfl
 i46 := by kernel_rfl
 i51 := by kernel_rfl
 i53 := by kernel_rfl
 i171 := by kernel_rfl
 i173 := by kernel_rfl
 i212 := by kernel_rfl
 i232 := by kernel_rfl
 i233 := by kernel_rfl
 m17 := by kernel_rfl
 m18 := by kernel_rfl
 m19 := by kernel_rfl }
open Go.RowKit Go.Sort Go.Lib in
theorem Tryz.strconv_Itoa (n : Int) (h0 : -9223372036854775808 ≤ n) (h1 : n ≤ 9223372036854775807) (w : World) (htab : Lib.TabIs Tryz.prog w "internal/strconv.uint64pow10" .u64 Lib.pow10Tab) :
  Calls Tryz.prog 146 #[.int .i64 n] w fun e w' => e = .returned (.string ⟨(Lib.itoa n).toArray⟩) ∧ ∃ k os, w' = grow (w.drewN k) os := Any.strconv_Itoa Tryz.laysM171 n h0 h1 w htab
end Go.Proofs
namespace Go.Proofs.YtlpndgodkkndnaaGreatDoor
open Go.RowKit Go.SX
set_option maxRecDepth 100000
set_option maxHeartbeats 4000000
set_option linter.unusedVariables false
set_option linter.unusedSimpArgs false
def tabG : Nat := 1
theorem tabG_eq : Tryz.prog.globalNamed "internal/strconv.uint64pow10" = some tabG := by kernel_rfl
def TB (t : TypeId) : Own := .trow tabG t (Lib.pow10Tab.map (AV.int .u64))
theorem TB_tab {S : Rg} {w : World} {t : TypeId} (h : OwnRel S w (TB t)) : Lib.TabIs Tryz.prog w "internal/strconv.uint64pow10" .u64 Lib.pow10Tab := by
 obtain ⟨cs, h1, h2, h3⟩ := h
 have hcs : cs = (Lib.pow10Tab.map fun z => Value.int .u64 z).toArray := by
  apply Array.ext_getElem?
  intro i
  by_cases hi : i < Lib.pow10Tab.length
  ·obtain ⟨v, hv, hr⟩ := h3 i (.int .u64 (Lib.pow10Tab[i])) (by rw [List.getElem?_map, List.getElem?_eq_getElem hi]; rfl)
   simp only [RelC, List.cons.injEq, and_true] at hr
   rw [hv, hr]
   simp [hi]
  ·rw [Array.getElem?_eq_none (by rw [h2, lM]; omega), Array.getElem?_eq_none (by simp; omega)]
 show World.var? _ _ _ = _
 unfold World.var?
 rw [tabG_eq, ← hcs, Option.bind_some, h1]
def itoaB (n : Nat) : ByteArray := ⟨(Lib.itoa n).toArray⟩
theorem Itoa_str (t : TypeId) (n : Nat) (hn : n ≤ 9223372036854775807) : Tri Tryz.prog 146 [.int .i64 n] [TB t] (D (.str (itoaB n)) [TB t]) := by
 refine ⟨⟨_, Tryz.func146, rfl, rfl⟩, fun Fr w vs hst hrel => ?_⟩
 simp only [RelVs] at hrel
 obtain ⟨u1, us, rfl, h1, h1', rfl⟩ := hrel
 have hs : u1 = .int .i64 n := Rel.int ⟨h1, h1'⟩
 subst hs
 have htab := TB_tab (hst.rel (TB t) (List.mem_singleton.2 rfl))
 refine (Tryz.strconv_Itoa n (by omega) (by omega) w htab).mono ?_
 rintro e w' ⟨rfl, k, os, rfl⟩
 have hb : Below w.heap.size w (Sort.grow (w.drewN k) os) := ⟨rfl, rfl, rfl, by simp [Sort.grow, World.drewN], fun k hk => by simp [Sort.grow, World.drewN, Array.getElem?_append, hk]⟩
 have hext : Ext (fun _ _ => False) w (Sort.grow (w.drewN k) os) := ⟨hb.os, hb.tape, hb.output, hb.size, fun k hk _ => hb.block k hk, fun ad v hc _ => (World.cell?_of_block (hb.block ad.block (cell_lt hc))).trans hc⟩
 exact ⟨_, _, ⟨rfl, rfl⟩, ⟨_, rfl, mk_str⟩, hst.grow hext, hext.mono fun _ _ h => h.elim, fun _ _ _ h => h⟩
def valD (l : List UInt8) : Nat := l.foldl (fun a c => 10 * a + (c.toNat - 48)) 0
theorem valD_dec : ∀ (N u : Nat), u ≤ N → valD (Lib.decDigits u) = u := by
 intro N
 induction N with
 | zero =>
  intro u hu
  obtain rfl : u = 0 := by omega
  rw [Lib.decDigits, dif_pos (by omega)]; rfl
 | succ N ih =>
  intro u hu
  rw [Lib.decDigits]
  split
  ·rename_i h
   simp only [valD, List.foldl_cons, List.foldl_nil]
   have : (UInt8.ofNat (48 + u)).toNat = 48 + u := by rw [UInt8.toNat_ofNat']; omega
   omega
  ·rename_i h
   have h1 := ih (u / 10) (by omega)
   simp only [valD, List.foldl_append, List.foldl_cons, List.foldl_nil] at h1 ⊢
   rw [h1]
   have : (UInt8.ofNat (48 + u % 10)).toNat = 48 + u % 10 := by rw [UInt8.toNat_ofNat']; omega
   omega
theorem decD_digit : ∀ (N u : Nat), u ≤ N → ∀ c ∈ Lib.decDigits u, 48 ≤ c.toNat ∧ c.toNat ≤ 57 := by
 intro N
 induction N with
 | zero =>
  intro u hu c hc
  obtain rfl : u = 0 := by omega
  rw [Lib.decDigits, dif_pos (by omega)] at hc
  rw [List.mem_singleton.1 hc, UInt8.toNat_ofNat']; omega
 | succ N ih =>
  intro u hu c hc
  rw [Lib.decDigits] at hc
  split at hc
  ·rw [List.mem_singleton.1 hc, UInt8.toNat_ofNat']; omega
  ·rcases List.mem_append.1 hc with hc | hc
   ·exact ih (u / 10) (by omega) c hc
   ·rw [List.mem_singleton.1 hc, UInt8.toNat_ofNat']; omega
theorem decD_len : ∀ (k u : Nat), u < 10 ^ (k + 1) → (Lib.decDigits u).length ≤ k + 1 := by
 intro k
 induction k with
 | zero => intro u hu; rw [Lib.decDigits, dif_pos (by omega)]; simp
 | succ k ih =>
  intro u hu
  rw [Lib.decDigits]
  split
  ·simp
  ·have := ih (u / 10) (by rw [Nat.pow_succ] at hu; omega)
   simp only [lA, List.length_cons, List.length_nil]; omega
def wB (n : Nat) : ByteArray := ⟨#[119]⟩ ++ itoaB n
theorem wB_list (n : Nat) : (wB n).data.toList = 119 :: Lib.decDigits n := by
 rw [wB, itoaB, Lib.itoa_nonneg, ByteArray.data_append, Array.toList_append]; rfl
theorem wB_inj {m n : Nat} (h : wB m = wB n) : m = n := by
 have h1 := congrArg (fun b => b.data.toList) h
 simp only [wB_list, List.cons.injEq, true_and] at h1
 rw [← valD_dec m m (Nat.le_refl _), h1, valD_dec n n (Nat.le_refl _)]
theorem wB_size (n : Nat) (hn : n < 10000000000) : (wB n).size ≤ 11 := by
 have h : (wB n).size = (wB n).data.toList.length := rfl
 have := decD_len 9 n (by omega)
 rw [h, wB_list, List.length_cons]; omega
theorem wB_ok (n : Nat) (hn : n < 10000000000) : strOk (wB n) := by
 have := wB_size n hn
 show (wB n).size ≤ _; omega
theorem has_mem {l : List ByteArray} {s : ByteArray} : has l s = true ↔ s ∈ l := by
 unfold has
 rw [List.any_eq_true]
 constructor
 ·rintro ⟨x, hx, h⟩
  rw [← of_decide_eq_true h]; exact hx
 ·intro h; exact ⟨s, h, by simp⟩
theorem has_not {l : List ByteArray} {s : ByteArray} : has l s = false ↔ s ∉ l := by
 rw [← has_mem, Bool.not_eq_true]
theorem wB_name (n : Nat) (hn : n < 10000000000) : nameB (wB n) = true := by
 have hl := wB_list n
 have hs := wB_size n hn
 have hsz : (wB n).size = (Lib.decDigits n).length + 1 := by
  have h : (wB n).size = (wB n).data.toList.length := rfl
  rw [h, hl, List.length_cons]
 have hb : ∀ i, byteAt (wB n) i = ((((119 : UInt8) :: Lib.decDigits n)[i]?).map (·.toNat)).getD 0 := by
  intro i
  rw [← hl]
  unfold byteAt
  by_cases hi : i < (wB n).size
  ·rw [getElem?_pos (wB n) i hi, List.getElem?_eq_getElem (by show i < (wB n).data.toList.length; exact hi)]
   rfl
  ·rw [getElem?_neg (wB n) i hi, List.getElem?_eq_none (by show (wB n).data.toList.length ≤ i; exact Nat.le_of_not_lt hi)]
   rfl
 have hw : wordB (wB n) = false := by
  have ne : ∀ (c : UInt8) (l : List UInt8), c ≠ 119 → decide (wB n = ⟨(c :: l).toArray⟩) = false := by
   intro c l hc
   refine decide_eq_false fun h => ?_
   have := congrArg (fun b => b.data.toList) h
   simp only [hl] at this
   injection this with h1 _
   exact hc h1.symm
  unfold wordB
  rw [ne 97 [110, 100] (by decide), ne 111 [114] (by decide), ne 110 [111, 116] (by decide), ne 115 [111, 109, 101] (by decide), ne 97 [108, 108] (by decide), ne 108 [102, 112] (by decide), ne 112 [102, 112] (by decide), ne 116 [99] (by decide), ne 101 [120, 105, 115, 116, 115] (by decide), ne 116 [114, 117, 101] (by decide), ne 102 [97, 108, 115, 101] (by decide)]
  rfl
 unfold nameB
 rw [hw, decide_eq_true (by omega : 0 < (wB n).size), decide_eq_true (by omega : (wB n).size ≤ 12)]
 have h0 : letterB (byteAt (wB n) 0) = true := by rw [hb 0]; show letterB 119 = true; decide
 rw [h0]
 simp only [Bool.true_and, Bool.not_false, List.all_eq_true, List.mem_range]
 intro i hi
 cases i with
 | zero => rw [h0]; rfl
 | succ i =>
  rw [hb, List.getElem?_cons_succ, List.getElem?_eq_getElem (by omega)]
  have := decD_digit n n (Nat.le_refl _) _ (List.getElem_mem (l := Lib.decDigits n) (n := i) (by omega))
  simp only [Option.map_some, Option.getD_some, digitB]
  rw [decide_eq_true (by omega), decide_eq_true (by omega)]
  simp
def frN (tk : List ByteArray) : Nat → Nat → Nat
 | 0, n => n
 | k + 1, n => bif has tk (wB n) then frN tk k (n + 1) else n
theorem frN_spec (tk : List ByteArray) : ∀ (k n : Nat), n ≤ frN tk k n ∧ frN tk k n ≤ n + k ∧ (∀ i, n ≤ i → i < frN tk k n → has tk (wB i) = true) ∧ (frN tk k n < n + k → has tk (wB (frN tk k n)) = false) := by
 intro k
 induction k with
 | zero => intro n; simp only [frN]; exact ⟨by omega, by omega, by intros; omega, by omega⟩
 | succ k ih =>
  intro n
  rw [frN]
  cases h : has tk (wB n) with
  | true =>
   obtain ⟨h1, h2, h3, h4⟩ := ih (n + 1)
   simp only [cond_true]
   refine ⟨by omega, by omega, fun i hi hlt => ?_, fun hlt => h4 (by omega)⟩
   by_cases e : i = n
   ·rw [e, h]
   ·exact h3 i (by omega) hlt
  | false =>
   simp only [cond_false]
   exact ⟨by omega, by omega, by intros; omega, fun _ => h⟩
theorem pigeon : ∀ (k n : Nat) (tk : List ByteArray), (∀ i, n ≤ i → i < n + k → wB i ∈ tk) → k ≤ tk.length := by
 intro k
 induction k with
 | zero => intros; omega
 | succ k ih =>
  intro n tk h
  have h0 := h n (by omega) (by omega)
  have := ih (n + 1) (tk.filter fun x => !decide (x = wB n)) fun i h1 h2 => List.mem_filter.2 ⟨h i (by omega) (by omega), by
   rw [decide_eq_false (by intro e; have := wB_inj e; omega)]; rfl⟩
  have h2 : (tk.filter fun x => !decide (x = wB n)).length < tk.length := List.length_filter_lt_length_iff_exists.2 ⟨_, h0, by simp⟩
  omega
def frS (tk : List ByteArray) (n : Nat) : Nat := frN tk (tk.length + 1) n
theorem frS_spec (tk : List ByteArray) (n : Nat) : n ≤ frS tk n ∧ frS tk n ≤ n + tk.length ∧ (∀ i, n ≤ i → i < frS tk n → has tk (wB i) = true) ∧ has tk (wB (frS tk n)) = false := by
 obtain ⟨h1, h2, h3, h4⟩ := frN_spec tk (tk.length + 1) n
 have hlt : frS tk n < n + (tk.length + 1) := by
  by_cases e : frS tk n < n + (tk.length + 1)
  ·exact e
  ·have := pigeon (tk.length + 1) n tk fun i hi hi2 => has_mem.1 (h3 i hi (by unfold frS at e; omega))
   omega
 exact ⟨h1, by unfold frS at *; omega, h3, h4 hlt⟩
def frL : Nat → List ByteArray → Nat → List ByteArray × Nat
 | 0, _, n => ([], n)
 | k + 1, tk, n => (wB (frS tk n) :: (frL k (tk ++ [wB (frS tk n)]) (frS tk n + 1)).1, (frL k (tk ++ [wB (frS tk n)]) (frS tk n + 1)).2)
theorem frL_len : ∀ (k : Nat) (tk : List ByteArray) (n : Nat), (frL k tk n).1.length = k
 | 0, _, _ => rfl
 | k + 1, tk, n => by rw [frL, List.length_cons, frL_len k]
def Fresh (tk l : List ByteArray) : Prop := l.Nodup ∧ ∀ x ∈ l, x ∉ tk
theorem Fresh.app {tk a b : List ByteArray} (h : Fresh tk a) (k : Fresh (tk ++ a) b) : Fresh tk (a ++ b) := by
 refine ⟨List.nodup_append.2 ⟨h.1, k.1, ?_⟩, ?_⟩
 ·rintro x hx y hy rfl
  exact k.2 x hy (List.mem_append_right _ hx)
 ·intro x hx
  rcases List.mem_append.1 hx with hx | hx
  ·exact h.2 x hx
  ·exact fun h2 => k.2 x hx (List.mem_append_left _ h2)
theorem frL_fresh : ∀ (k : Nat) (tk : List ByteArray) (n : Nat), Fresh tk (frL k tk n).1
 | 0, _, _ => ⟨List.nodup_nil, by intro x hx; cases hx⟩
 | k + 1, tk, n => by
  have h := frL_fresh k (tk ++ [wB (frS tk n)]) (frS tk n + 1)
  have h1 : Fresh tk [wB (frS tk n)] := ⟨by simp, by
   intro x hx; rw [List.mem_singleton.1 hx]; exact has_not.1 (frS_spec tk n).2.2.2⟩
  exact h1.app h
theorem frL_bd (T : Nat) : ∀ (k : Nat) (tk : List ByteArray) (n : Nat), tk.length + k ≤ T → n ≤ (frL k tk n).2 ∧ (frL k tk n).2 ≤ n + k * (T + 1) ∧ ∀ x ∈ (frL k tk n).1, ∃ m, m < (frL k tk n).2 ∧ x = wB m
 | 0, _, n, _ => ⟨Nat.le_refl _, by show n ≤ n + 0 * (T + 1); omega, by intro x hx; cases hx⟩
 | k + 1, tk, n, h => by
  obtain ⟨h1, h2, _, _⟩ := frS_spec tk n
  obtain ⟨k1, k2, k3⟩ := frL_bd T k (tk ++ [wB (frS tk n)]) (frS tk n + 1) (by simp; omega)
  rw [frL]
  refine ⟨by (try simp only); omega, ?_, ?_⟩
  ·rw [Nat.succ_mul]; (try simp only); omega
  ·intro x hx
   rcases List.mem_cons.1 hx with rfl | hx
   ·exact ⟨_, by (try simp only); omega, rfl⟩
   ·exact k3 x hx
abbrev Sb := ByteArray → Option ByteArray
def rnS (σ : Sb) (v : ByteArray) : ByteArray := (σ v).getD v
def up1 (σ : Sb) (v w : ByteArray) : Sb := fun x => if x = v then some w else σ x
def upV : List ByteArray → List ByteArray → Sb → Sb
 | v :: l, w :: r, σ => upV l r (up1 σ v w)
 | _, _, σ => σ
mutual
def apF : GFml → Sb → List ByteArray → Nat → GFml × List ByteArray × Nat
 | ⟨k, ar, nm, vars, args, kids⟩, σ, tk, n =>
  (⟨k, ar, nm, (frL vars.length tk n).1, args.map (rnS σ), (apL kids (upV vars (frL vars.length tk n).1 σ) (tk ++ (frL vars.length tk n).1) (frL vars.length tk n).2).1⟩,
   (apL kids (upV vars (frL vars.length tk n).1 σ) (tk ++ (frL vars.length tk n).1) (frL vars.length tk n).2).2)
def apL : List GFml → Sb → List ByteArray → Nat → List GFml × List ByteArray × Nat
 | [], _, tk, n => ([], tk, n)
 | x :: l, σ, tk, n => ((apF x σ tk n).1 :: (apL l σ (apF x σ tk n).2.1 (apF x σ tk n).2.2).1, (apL l σ (apF x σ tk n).2.1 (apF x σ tk n).2.2).2)
end
mutual
def bdF : GFml → List ByteArray
 | ⟨_, _, _, vars, _, kids⟩ => vars ++ bdL kids
def bdL : List GFml → List ByteArray
 | [] => []
 | x :: l => bdF x ++ bdL l
end
mutual
theorem ap_tk : ∀ (f : GFml) (σ : Sb) (tk : List ByteArray) (n : Nat), (apF f σ tk n).2.1 = tk ++ bdF (apF f σ tk n).1
 | ⟨k, ar, nm, vars, args, kids⟩, σ, tk, n => by
  rw [apF]
  simp only [bdF]
  rw [ap_tkL kids, List.append_assoc]
theorem ap_tkL : ∀ (l : List GFml) (σ : Sb) (tk : List ByteArray) (n : Nat), (apL l σ tk n).2.1 = tk ++ bdL (apL l σ tk n).1
 | [], σ, tk, n => by simp [apL, bdL]
 | x :: l, σ, tk, n => by
  rw [apL]
  simp only [bdL]
  rw [ap_tkL l, ap_tk x, List.append_assoc]
end
mutual
theorem ap_fresh : ∀ (f : GFml) (σ : Sb) (tk : List ByteArray) (n : Nat), Fresh tk (bdF (apF f σ tk n).1)
 | ⟨k, ar, nm, vars, args, kids⟩, σ, tk, n => by
  rw [apF]
  simp only [bdF]
  exact (frL_fresh _ tk n).app (ap_freshL kids _ _ _)
theorem ap_freshL : ∀ (l : List GFml) (σ : Sb) (tk : List ByteArray) (n : Nat), Fresh tk (bdL (apL l σ tk n).1)
 | [], σ, tk, n => by rw [apL]; exact ⟨List.nodup_nil, by intro x hx; cases hx⟩
 | x :: l, σ, tk, n => by
  rw [apL]
  simp only [bdL]
  have h := ap_freshL l σ (apF x σ tk n).2.1 (apF x σ tk n).2.2
  rw [ap_tk x] at h ⊢
  exact (ap_fresh x σ tk n).app h
end
mutual
theorem ap_er : ∀ (f : GFml) (σ : Sb) (tk : List ByteArray) (n : Nat), erF (apF f σ tk n).1 = erF f
 | ⟨k, ar, nm, vars, args, kids⟩, σ, tk, n => by
  rw [apF]
  simp only [erF]
  rw [ap_erL kids, map_const]
  congr 1
  rw [List.map_const', List.map_const', frL_len]
theorem ap_erL : ∀ (l : List GFml) (σ : Sb) (tk : List ByteArray) (n : Nat), erL (apL l σ tk n).1 = erL l
 | [], σ, tk, n => by rw [apL]
 | x :: l, σ, tk, n => by rw [apL]; simp only [erL]; rw [ap_er x, ap_erL l]
end
theorem ap_lenL : ∀ (l : List GFml) (σ : Sb) (tk : List ByteArray) (n : Nat), (apL l σ tk n).1.length = l.length
 | [], σ, tk, n => by rw [apL]
 | x :: l, σ, tk, n => by rw [apL]; simp only [List.length_cons]; rw [ap_lenL l]
mutual
theorem ap_bd (T : Nat) : ∀ (f : GFml) (σ : Sb) (tk : List ByteArray) (n : Nat), tk.length + (bdF f).length ≤ T → n ≤ (apF f σ tk n).2.2 ∧ (apF f σ tk n).2.2 ≤ n + (bdF f).length * (T + 1) ∧ (bdF (apF f σ tk n).1).length = (bdF f).length
 | ⟨k, ar, nm, vars, args, kids⟩, σ, tk, n, h => by
  rw [bdF, lA] at h ⊢
  obtain ⟨h1, h2, _⟩ := frL_bd T vars.length tk n (by omega)
  obtain ⟨k1, k2, k3⟩ := ap_bdL T kids (upV vars (frL vars.length tk n).1 σ) (tk ++ (frL vars.length tk n).1) (frL vars.length tk n).2 (by rw [lA, frL_len]; omega)
  rw [apF, bdF, lA]
  refine ⟨by (try simp only); omega, ?_, ?_⟩
  ·rw [Nat.add_mul]; (try simp only); omega
  ·(try simp only); rw [frL_len, k3]
theorem ap_bdL (T : Nat) : ∀ (l : List GFml) (σ : Sb) (tk : List ByteArray) (n : Nat), tk.length + (bdL l).length ≤ T → n ≤ (apL l σ tk n).2.2 ∧ (apL l σ tk n).2.2 ≤ n + (bdL l).length * (T + 1) ∧ (bdL (apL l σ tk n).1).length = (bdL l).length
 | [], σ, tk, n, h => by rw [apL]; exact ⟨Nat.le_refl _, by show n ≤ n + _; omega, rfl⟩
 | x :: l, σ, tk, n, h => by
  rw [bdL, lA] at h ⊢
  obtain ⟨h1, h2, h3⟩ := ap_bd T x σ tk n (by omega)
  obtain ⟨k1, k2, k3⟩ := ap_bdL T l σ (apF x σ tk n).2.1 (apF x σ tk n).2.2 (by rw [ap_tk, lA]; omega)
  rw [apL, bdL, lA]
  refine ⟨by (try simp only); omega, ?_, ?_⟩
  ·rw [Nat.add_mul]; (try simp only); omega
  ·(try simp only); rw [h3, k3]
end
def nilM : AV := .val (.map none)
theorem n_renamed_nil (l : List ByteArray) (hl : l.length ≤ 8796093021952) :
  Tri Tryz.prog 100 [strs l, nilM] [] (D (strs l) []) := by
 refine Tri.enter 30 Tryz.func100 rfl rfl rfl rfl fun Fr w0 => ?_
 repeat' (first | (refine AW.r 0 ?_; refine AL.d AOp.assign_nil ?_; refine AL.nil ?_) | (refine AW.r 1 ?_; refine AL.d AOp.assign_nil ?_; refine AL.nil ?_) | (refine AW.r 2 ?_; refine AL.e ?_; refine AL.es 1 ?_; refine AL.e ?_; refine AL.nil ?_) | refine AW.go ?_ | fail)
 refine AW.own_nil 1 ?_
 refine AW.prune [1, 5, 10, 11, 12] (AW.loop (fun mz af h => ∃ (i : Nat) (o : List ByteArray) (tt : Option Nat) (cc : Nat), i ≤ l.length ∧ mz = l.length - i ∧ af = [(1, nilM), (5, .slt (o.map AV.str) tt cc), (10, strs l), (11, .int .i64 (l.map AV.str).length), (12, .int .i64 i)] ∧ h = [.tail tt (o.map AV.str).length cc 1] ∧ o = l.take i) l.length ⟨0, [], none, 0, Nat.zero_le _, rfl, rfl, rfl, by simp⟩ ?_)
 rintro mz af h ⟨i, o, tt, cc, hi, rfl, rfl, rfl, he⟩
 refine AW.seq ?_
 by_cases hlt : i < l.length
 ·obtain ⟨x, hx⟩ := get_lt hlt
  have hx' : (l.map AV.str)[((i : Nat) : Int).toNat]? = some (.str x) := map_get hx
  have hol : o.length ≤ 8796093021952 := by rw [he]; simp; omega
  have hm : (o ++ [x]).map AV.str = o.map AV.str ++ [.str x] := by simp
  repeat' (first | refine AW.re 3 1 ?_ | (refine AW.r 4 ?_; refine AL.d (iX hx') ?_; refine xN 2 ?_) | refine AW.jj (fun hb => ?_) (fun hb => ?_) | refine AW.go ?_ | fail)
  all_goals try (exfalso; simp only [dT, dF, lM] at *; omega)
  repeat' (first | (refine xS 5 2 ?_; refine AL.d (AOp.lookup_nil (kd := .string) (e := 9) (.string ⟨#[]⟩) (ok := true) rfl rfl (by kernel_rfl) (by kernel_rfl) rfl) ?_; refine xN 5 ?_) | refine AW.re 6 1 ?_ | (refine xS 8 2 ?_; refine AL.d (AOp.lit (e := 9) (sz := 1) (by kernel_rfl) rfl rfl rfl (P_one rfl) (by decide)) ?_; refine AL.append (i := 0) (xs := o.map AV.str) (e := 9) (sz := 1) (bytes := 16) rfl rfl rfl rfl (by kernel_rfl) (by kernel_rfl) (P_map fun _ => rfl) (P_one rfl) rfl (by simp only [lM]; simp; omega) (by simp only [lM]; simp; omega) rfl fun b' c' => ?_ <;> refine AL.es 1 ?_ <;> refine AL.nil ?_) | (refine AW.r 9 ?_; refine AL.d AOp.ad ?_; refine xN 1 ?_) | refine AW.jf ?_ | fail)
  rw [← hm]
  refine AW.frame_eq rfl (show _ = [Own.tail b' ((o ++ [x]).map AV.str).length c' 1] from by rw [hm]; rfl) ?_
  refine AW.again_keep (l.length - (i + 1)) [1, 5, 10, 11, 12] (by omega) ⟨i + 1, o ++ [x], b', c', hlt, rfl, rfl, rfl, ?_⟩
  rw [he, List.take_add_one, hx]; simp
 ·have ho2 : o = l := by rw [he, List.take_of_length_le (by omega)]
  subst ho2
  repeat' (first | refine AW.re 3 1 ?_ | refine AW.jj (fun hb => ?_) (fun hb => ?_) | refine AW.go ?_ | fail)
  all_goals try (exfalso; simp only [dT, dF, lM] at *; omega)
  refine AW.as_sl 5 rfl ?_
  repeat' (first | refine AW.re 10 2 ?_ | fail)
  exact AW.ret_drop rfl (List.nil_sublist _) ⟨rfl, rfl⟩
theorem Clone_own (xs : List ByteArray) (hx : xs ≠ []) (hl : xs.length ≤ 8796093021952) : Tri Tryz.prog 148 [strs xs] [] (fun r h => ∃ b c, r = .ret (.osl b xs.length c) ∧ h = [.row b (xs.map AV.str)]) := by
 have hp : 0 < xs.length := List.length_pos_iff.2 hx
 refine Tri.enter 8 Tryz.func148 rfl rfl rfl rfl fun Fr w0 => ?_
 repeat' (first | refine AW.re 0 1 ?_ | refine AW.go ?_ | fail)
 repeat' (first | (refine xS 1 1 ?_; refine AL.slice_nil (xs := xs.map AV.str) rfl (by kernel_rfl) rfl fun B hB => ?_; refine AL.nil ?_) | refine AW.jj (fun hb => ?_) (fun hb => ?_) | refine AW.go ?_ | fail)
 ·have h := hB (by simpa using hx)
  rw [h] at hb; cases hb
 ·repeat' (first | (refine AW.r 3 ?_; refine AL.lit_own (e := 9) (sz := 1) (by kernel_rfl) rfl rfl rfl P_nil (by decide) rfl fun b0 => ?_; refine AL.es 1 ?_; refine AL.append_new 0 (e := 9) (bytes := 16) (ys := xs.map AV.str) (n := xs.length) rfl rfl rfl rfl (by rw [lM]) hp (P_map fun _ => rfl) (by kernel_rfl) (by kernel_rfl) (by omega) (by omega) rfl fun b' c' hc' => ?_; refine xN 1 ?_) | fail)
  exact AW.retv rfl ⟨_, _, rfl, rfl⟩
theorem n_with_own (f : GFml) (hx : f.Vars ≠ []) (ho : f.Ok) : Tri Tryz.prog 99 [f.st, nilS] [] (fun r h => ∃ b c, r = .ret (.st [.int .i64 f.Kind, .int .i64 f.Arity, .str f.Name, .osl b f.Vars.length c, strs f.Args, nilS]) ∧ h = [.row b (f.Vars.map AV.str)]) := by
 obtain ⟨⟨_, _, _, h4, h5⟩, h6, h7⟩ := ho
 have hv := Clone_own f.Vars hx (by have := h4.1; omega)
 have ha := Clone_str f.Args (by have := h5.1; omega)
 obtain ⟨k, ar, nm, vars, args, kids0⟩ := f
 simp only at *
 refine Tri.enter 16 Tryz.func99 rfl rfl rfl rfl fun Fr w0 => ?_
 repeat' (first | (refine AW.r 0 ?_; refine AL.box rfl rfl rfl fun b => ?_; refine AL.alloc_z (t := 25) zF (by kernel_rfl) rfl rfl fun r => ?_; refine AL.nil ?_) | refine AW.go ?_ | fail)
 repeat' (first | fail)
 refine AW.explore [false, true] [1, 2, 4, 5, 8, 10, 12] rfl (by kernel_rfl) (by kernel_rfl) (by kernel_rfl) (by kernel_rfl) ?_
 refine AQE.op rfl (AOp.fr 3) rfl rfl ?_
 refine AQE.hole rfl rfl ?_
 refine AQE.hole rfl rfl ?_
 refine AQE.op rfl (AOp.fr 4) rfl rfl ?_
 refine AQE.hole rfl rfl ?_
 refine AQE.hole rfl rfl ?_
 refine AQE.ev rfl rfl rfl rfl ?_
 refine AQE.op rfl (AOp.fr 3) rfl rfl ?_
 refine AQE.hole rfl rfl ?_
 refine AQE.op rfl (AOp.fr 4) rfl rfl ?_
 refine AQE.hole rfl rfl ?_
 refine AQE.op rfl (AOp.fr 5) rfl rfl ?_
 refine AQE.hole rfl rfl ?_
 refine AQE.nil ?_
 repeat' (first | refine AX.two (n := 6) 1 4 rfl ?_ ?_ | refine AX.two (n := 5) 2 4 rfl ?_ ?_ | refine AX.one (n := 5) 1 rfl ?_ | refine AX.one (n := 4) 2 rfl ?_ | refine AX.one (n := 4) 4 rfl ?_ | refine AX.one (n := 3) 5 rfl ?_ | refine AX.one (n := 2) 8 rfl ?_ | refine AX.one (n := 1) 10 rfl ?_ | refine AX.one (n := 0) 12 rfl ?_ | (refine AXS.step (i := 2) rfl rfl rfl (AOp.call rfl rfl (hv.pureE _)) ?_ (by rintro _ _ ⟨_, ⟨_, _, e, _⟩, _⟩; cases e); rintro _ _ ⟨_, ⟨vb, vc, e, rfl⟩, rfl⟩; injection e with e; subst e; dsimp only [sA, sB]) | (refine AXS.det (i := 1) rfl rfl rfl (AOp.ll 0) ?_; dsimp only [sA, sB]) | (refine AXS.det (i := 4) rfl rfl rfl (AOp.ll 0) ?_; dsimp only [sA, sB]) | (refine AXS.det (i := 4) rfl rfl rfl (AOp.ll 1) ?_; dsimp only [sA, sB]) | (refine AXS.det (i := 5) rfl rfl rfl (AOp.call rfl rfl (ha.pure _)) ?_; dsimp only [sA, sB]) | (refine AXS.at (q := 8) rfl rfl ?_; refine AXO.sl 1 (fun _ => ?_); dsimp only [sA, sB]) | (refine AXS.at (q := 10) rfl rfl ?_; refine AXO.sl 1 (fun _ => ?_); dsimp only [sA, sB]) | (refine AXS.at (q := 12) rfl rfl ?_; refine AXO.sl 1 (fun _ => ?_); dsimp only [sA, sB]) | fail)
 all_goals
  refine AX.done [(2, .ref b 0), (4, .ref r 0)] rfl ?_
  repeat' (first | (refine AW.r 2 ?_; refine AL.d (AOp.lw 1) ?_; refine AL.sl 2 ?_; refine AL.nil ?_) | fail)
  exact AW.retc (.cell 2 rfl rfl (by kernel_rfl) .nil) (.cons_cons _ (.cons _ (.cons _ .slnil))) ⟨_, _, rfl, rfl⟩
theorem lookA_bmap (s : ByteArray) : ∀ tk : List ByteArray, lookA (bmap tk) s = if has tk s = true then some true else none
 | [] => rfl
 | x :: tk => by
  have ih := lookA_bmap s tk
  simp only [bmap, List.map_cons, lookA] at ih ⊢
  by_cases e : s = x
  ·subst e; simp [has]
  ·rw [if_neg e, ih]
   have : has (x :: tk) s = has tk s := by
    unfold has
    rw [List.any_cons, decide_eq_false (fun h => e h.symm), Bool.false_or]
   rw [this]
theorem addV_new {tk : List ByteArray} {v : ByteArray} (h : has tk v = false) : addV tk v = tk ++ [v] := by
 unfold addV; rw [if_neg]; rw [has] at h; rw [h]; decide
def nmAV (mt n : Nat) : AV := .st [.map mt, .int .i64 n]
theorem n_fresh (t : TypeId) (rn mt : Nat) (tk : List ByteArray) (n : Nat) (g : MG) (hb : n + tk.length < 10000000000) :
  Tri Tryz.prog 101 [.ref rn 0] [TB t, .box rn (nmAV mt n), .map mt (kvW bav (bmap tk)) g] (fun r h => r = .ret (.str (wB (frS tk n))) ∧ ∃ g', h = [TB t, .box rn (nmAV mt (frS tk n + 1)), .map mt (kvW bav (bmap (tk ++ [wB (frS tk n)]))) g']) := by
 obtain ⟨hM1, hM2, hM3, hM4⟩ := frS_spec tk n
 generalize frS tk n = M at *
 refine Tri.enter 30 Tryz.func101 rfl rfl rfl rfl fun Fr w0 => ?_
 repeat' (first | refine AW.re 0 1 ?_ | refine AW.go ?_ | fail)
 refine AW.prune [0] (AW.loop (fun m af h => ∃ j : Nat, n ≤ j ∧ j ≤ M ∧ m = M - j ∧ af = [(0, .ref rn 0)] ∧ h = [TB t, .box rn (nmAV mt j), .map mt (kvW bav (bmap tk)) g]) (M - n) ⟨n, Nat.le_refl _, hM1, rfl, rfl, rfl⟩ ?_)
 rintro m af h ⟨j, hj1, hj2, rfl, rfl, rfl⟩
 have hI : Tri Tryz.prog 146 [.int .i64 j] [TB t, .box rn (nmAV mt j), .map mt (kvW bav (bmap tk)) g] (D (.str (itoaB j)) [TB t, .box rn (nmAV mt j), .map mt (kvW bav (bmap tk)) g]) := Tri.frameD (ah := [_, _, _]) [true] (Itoa_str t j (by omega))
 have hz : (⟨#[119]⟩ : ByteArray).size + (itoaB j).size ≤ 9223372036854775807 := by
  have h1 := wB_size j (by omega)
  rw [wB, ByteArray.size_append] at h1
  omega
 cases hh : has tk (wB j) with
 | true =>
  have hL : lookA (bmap tk) (wB j) = some true := by rw [lookA_bmap, hh]; rfl
  have hlt : j < M := by
   rcases Nat.lt_or_ge j M with h | h
   ·exact h
   ·obtain rfl : j = M := by omega
    rw [hh] at hM4; cases hM4
  repeat' (first | (refine xS 1 2 ?_; refine AL.d (AOp.fr 1) ?_; refine AL.d (AOp.ll 1) ?_; refine AL.d (AOp.call rfl rfl hI) ?_; refine AL.d (AOp.str_add (s := ⟨#[119]⟩) (t := itoaB j) rfl rfl hz) ?_; refine xN 1 ?_) | (refine xS 2 2 ?_; refine AL.d (AOp.fr 1) ?_; refine AL.d (AOp.ll 1) ?_; refine AL.d (AOp.add rfl rfl (by omega)) ?_; refine AL.es 1 ?_; refine AL.d (AOp.fr 1) ?_; refine AL.sl 1 ?_; refine AL.nil ?_) | (refine xS 3 2 ?_; refine AL.d (AOp.fr 0) ?_; refine AL.d (AOp.ll 1) ?_; refine AL.es 1 ?_; refine AL.d (AOp.lookS_hit 2 4 (g := bav) (ok := false) hL rfl rfl rfl (by kernel_rfl)) ?_; refine xN 1 ?_) | refine AW.jf ?_ | refine AW.go ?_ | fail)
  exact AW.again_keep (M - (j + 1)) [0] (by omega) ⟨j + 1, by omega, by omega, rfl, rfl, rfl⟩
 | false =>
  have hL : lookA (bmap tk) (wB j) = none := by rw [lookA_bmap, hh]; rfl
  obtain rfl : j = M := by
   rcases Nat.lt_or_ge j M with h | h
   ·rw [hM3 j hj1 h] at hh; cases hh
   ·omega
  repeat' (first | (refine xS 1 2 ?_; refine AL.d (AOp.fr 1) ?_; refine AL.d (AOp.ll 1) ?_; refine AL.d (AOp.call rfl rfl hI) ?_; refine AL.d (AOp.str_add (s := ⟨#[119]⟩) (t := itoaB j) rfl rfl hz) ?_; refine xN 1 ?_) | (refine xS 2 2 ?_; refine AL.d (AOp.fr 1) ?_; refine AL.d (AOp.ll 1) ?_; refine AL.d (AOp.add rfl rfl (by omega)) ?_; refine AL.es 1 ?_; refine AL.d (AOp.fr 1) ?_; refine AL.sl 1 ?_; refine AL.nil ?_) | (refine xS 3 2 ?_; refine AL.d (AOp.fr 0) ?_; refine AL.d (AOp.ll 1) ?_; refine AL.es 1 ?_; refine AL.d (AOp.lookS_miss 2 4 (.bool false) (ok := false) hL rfl rfl rfl (by kernel_rfl) (by kernel_rfl)) ?_; refine xN 1 ?_) | (refine xS 4 2 ?_; refine AL.d (AOp.fr 0) ?_; refine AL.d (AOp.ll 1) ?_; refine AL.es 1 ?_; refine AL.setS 2 4 bav true rfl rfl rfl rfl (by kernel_rfl) ?_; refine AL.nil ?_) | refine AW.re 5 2 ?_ | refine AW.jt ?_ | fail)
  rw [setA_bmap]
  have ha : addV tk (wB j) = tk ++ [wB j] := addV_new hh
  refine AW.frame_eq rfl (show _ = [TB t, Own.box rn (nmAV mt (j + 1)), .map mt (kvW bav (bmap (tk ++ [wB j]))) _] from by rw [← ha]; rfl) ?_
  exact AW.retv rfl ⟨rfl, _, rfl⟩
theorem vrL_snoc (x : GFml) : ∀ (l : List GFml) (out : List ByteArray), vrL (l ++ [x]) out = vrF x (vrL l out)
 | [], out => by rw [List.nil_append, vrL, vrL, vrL]
 | y :: l, out => by rw [List.cons_append, vrL, vrL, vrL_snoc x l]
theorem n_newNamer (fs : List GFml) (hl : fs.length ≤ 1353245080300) (ho : ∀ x ∈ fs, x.Ok) :
  Tri Tryz.prog 53 [.sl (fs.map GFml.av)] [] (fun r h => ∃ rn mt g, r = .ret (.ref rn 0) ∧ h = [.map mt (kvW bav (bmap (vrL fs []))) g, .box rn (nmAV mt 0)]) := by
 refine Tri.enter 23 Tryz.func53 rfl rfl rfl rfl fun Fr w0 => ?_
 repeat' (first | refine AW.re 0 1 ?_ | refine AW.go ?_ | fail)
 repeat' (first | (refine AW.r 1 ?_; refine AL.makeMap rfl fun mt => ?_; (refine AL.d (AOp.build (pl := [(0, 1), (1, 1)]) (z := .st [nilM, .int .i64 0]) (by kernel_rfl) rfl rfl rfl) ?_) <;> refine AL.box rfl rfl rfl fun rn => ?_ <;> refine AL.es 1 ?_ <;> refine AL.nil ?_) | refine AW.re 2 3 ?_ | refine AW.go ?_ | fail)
 refine AW.perm (b := [.map mt [] ⟨[], 0⟩, .box rn (nmAV mt 0)]) (.swap _ _ _) ?_
 refine AW.prune [3, 9, 10, 11] (AW.loop (fun mz af h => ∃ (i : Nat) (o : List ByteArray) (gg : MG), i ≤ fs.length ∧ mz = fs.length - i ∧ af = [(3, .ref rn 0), (9, .sl (fs.map GFml.av)), (10, .int .i64 (fs.map GFml.av).length), (11, .int .i64 i)] ∧ h = [.map mt (kvW bav (bmap o)) gg, .box rn (nmAV mt 0)] ∧ o = vrL (fs.take i) []) fs.length ⟨0, [], ⟨[], 0⟩, Nat.zero_le _, rfl, rfl, rfl, by simp [vrL]⟩ ?_)
 rintro mz af h ⟨i, o, gg, hi, rfl, rfl, rfl, he⟩
 refine AW.seq ?_
 by_cases hlt : i < fs.length
 ·obtain ⟨x, hx⟩ := get_lt hlt
  have hx' : (fs.map GFml.av)[((i : Nat) : Int).toNat]? = some (x.st) := GFml.get hx
  repeat' (first | refine AW.re 3 1 ?_ | refine AW.jj (fun hb => ?_) (fun hb => ?_) | refine AW.go ?_ | fail)
  all_goals try (exfalso; simp only [dT, dF, lM] at *; omega)
  repeat' (first | (refine AW.r 4 ?_; refine AL.d (iX hx') ?_; refine AL.d AOp.la ?_; refine AL.alloc_z (t := 25) zF (by kernel_rfl) rfl rfl fun r5 => ?_; refine AL.sl 0 ?_; refine AL.nil ?_) | fail)
  have hc := Tri.frame (ah := [.box r5 x.st, .map mt (kvW bav (bmap o)) gg, .box rn (nmAV mt 0)]) [false, true] (n_vars _ x o mt gg (Nat.le_refl _) (ho x (lG hx)))
  repeat' (first | (refine AW.dl 5 5 ?_; refine AQ.p rfl (AOp.lw 0) ?_; refine AQ.es 2 ?_; refine AQ.p rfl (AOp.fr 0) ?_; refine AQ.p rfl (AOp.ll 2) ?_; refine AQ.nil ?_; (refine AL.callQ rfl rfl hc rfl ?_ ?_; rotate_left; rintro _ _ ⟨_, ⟨e, _⟩, _⟩; cases e; rintro _ _ ⟨_, ⟨e, g', rfl⟩, rfl⟩; injection e with e; subst e) <;> refine AL.nil ?_) | refine AW.go ?_ | fail)
  refine AW.drop (ah' := [.map mt (kvW bav (bmap (vrF x o))) g', .box rn (nmAV mt 0)]) (.cons_cons _ (List.sublist_cons_self _ _)) ?_
  repeat' (first | (refine AW.r 6 ?_; refine AL.d AOp.ad ?_; refine xN 1 ?_) | fail)
  refine AW.again_keep (fs.length - (i + 1)) [3, 9, 10, 11] (by omega) ⟨i + 1, vrF x o, g', hlt, rfl, rfl, rfl, ?_⟩
  rw [he, List.take_add_one, hx]; simp [vrL_snoc]
 ·have ho2 : o = vrL fs [] := by rw [he, List.take_of_length_le (by omega)]
  subst ho2
  repeat' (first | refine AW.re 3 1 ?_ | refine AW.jj (fun hb => ?_) (fun hb => ?_) | refine AW.go ?_ | fail)
  all_goals try (exfalso; simp only [dT, dF, lM] at *; omega)
  repeat' (first | refine AW.re 7 2 ?_ | fail)
  exact AW.retv rfl ⟨_, _, _, rfl, rfl⟩
theorem lookA_none {α : Type} {A : List (ByteArray × α)} {k : ByteArray} : lookA A k = none ↔ k ∉ A.map (·.1) := by
 induction A with
 | nil => simp [lookA]
 | cons p A ih =>
  obtain ⟨k', v⟩ := p
  rw [lookA, List.map_cons, List.mem_cons, not_or]
  by_cases e : k = k'
  ·subst e; simp
  ·rw [if_neg e, ih]; exact ⟨fun h => ⟨e, h⟩, fun h => h.2⟩
theorem lookA_some {α : Type} {A : List (ByteArray × α)} {k : ByteArray} {v : α} (hn : (A.map (·.1)).Nodup) : lookA A k = some v ↔ (k, v) ∈ A := by
 induction A with
 | nil => simp [lookA]
 | cons p A ih =>
  obtain ⟨k', w⟩ := p
  rw [List.map_cons, List.nodup_cons] at hn
  rw [lookA, List.mem_cons]
  by_cases e : k = k'
  ·subst e
   rw [if_pos rfl]
   constructor
   ·intro h; rw [Option.some.inj h]; exact .inl rfl
   ·rintro (h | h)
    ·rw [(Prod.mk.inj h).2]
    ·exact (hn.1 (List.mem_map.2 ⟨_, h, rfl⟩)).elim
  ·rw [if_neg e, ih hn.2]
   exact ⟨.inr, fun h => h.elim (fun h => (e (Prod.mk.inj h).1).elim) id⟩
theorem nodup_injA {α : Type} {l : List α} (h : l.Nodup) (i j : Nat) (hi : i < l.length) (hj : j < l.length) (e : l[i] = l[j]) : i = j := by
 rcases Nat.lt_trichotomy i j with h1 | h1 | h1
 ·exact absurd e (List.pairwise_iff_getElem.1 h i j hi hj h1)
 ·exact h1
 ·exact absurd e.symm (List.pairwise_iff_getElem.1 h j i hj hi h1)
def CopyOf {α : Type} (M A : List (ByteArray × α)) (idx : List Nat) : Prop := (A.map (·.1)).Nodup ∧ ∀ k v, (k, v) ∈ A ↔ ∃ j ∈ idx, M[j]? = some (k, v)
theorem CopyOf.step {α : Type} {M A : List (ByteArray × α)} {idx : List Nat} (hM : (M.map (·.1)).Nodup) (h : CopyOf M A idx) {j : Nat} {k : ByteArray} {v : α} (hj : j ∉ idx) (hk : M[j]? = some (k, v)) : CopyOf M (setA A k v) (idx ++ [j]) := by
 have hno : k ∉ A.map (·.1) := by
  intro hm
  obtain ⟨⟨k', v'⟩, hp, rfl⟩ := List.mem_map.1 hm
  obtain ⟨j', hj', hk'⟩ := (h.2 _ _).1 hp
  have h1 := (List.getElem?_eq_some_iff.1 hk).1
  have h2 := (List.getElem?_eq_some_iff.1 hk').1
  have : j = j' := nodup_injA hM j j' (by simpa using h1) (by simpa using h2) (by
   have e1 : (M.map (·.1))[j]? = some k' := by rw [List.getElem?_map, hk]; rfl
   have e2 : (M.map (·.1))[j']? = some k' := by rw [List.getElem?_map, hk']; rfl
   rw [List.getElem?_eq_getElem (by simpa using h1)] at e1
   rw [List.getElem?_eq_getElem (by simpa using h2)] at e2
   exact (Option.some.inj e1).trans (Option.some.inj e2).symm)
  exact hj (this ▸ hj')
 rw [setA_miss (lookA_none.2 hno)]
 refine ⟨?_, fun k' v' => ?_⟩
 ·rw [List.map_append, List.nodup_append]
  refine ⟨h.1, by simp, ?_⟩
  rintro a ha b hb rfl
  simp only [List.map_cons, List.map_nil, List.mem_singleton] at hb
  subst hb; exact hno ha
 ·rw [List.mem_append, h.2, List.mem_singleton]
  constructor
  ·rintro (⟨j', hj', e⟩ | e)
   ·exact ⟨j', List.mem_append_left _ hj', e⟩
   ·exact ⟨j, by simp, by rw [hk, e]⟩
  ·rintro ⟨j', hj', e⟩
   rcases List.mem_append.1 hj' with hj' | hj'
   ·exact .inl ⟨j', hj', e⟩
   ·rw [List.mem_singleton.1 hj', hk] at e
    exact .inr (Option.some.inj e).symm
theorem CopyOf.all {α : Type} {M A : List (ByteArray × α)} {idx : List Nat} (hM : (M.map (·.1)).Nodup) (h : CopyOf M A idx) (ha : ∀ j, j < M.length → j ∈ idx) (v : ByteArray) : lookA A v = lookA M v := by
 have key : ∀ w, lookA A v = some w ↔ lookA M v = some w := fun w => by
  rw [lookA_some h.1, lookA_some hM, h.2]
  constructor
  ·rintro ⟨j, _, e⟩; exact lG e
  ·intro hm
   obtain ⟨j, hj⟩ := List.getElem?_of_mem hm
   exact ⟨j, ha j (List.getElem?_eq_some_iff.1 hj).1, hj⟩
 cases h1 : lookA A v with
 | none =>
  cases h2 : lookA M v with
  | none => rfl
  | some w => rw [(key w).2 h2] at h1; cases h1
 | some w => rw [(key w).1 h1]
theorem setA_nodup {α : Type} {A : List (ByteArray × α)} {k : ByteArray} {v : α} (h : (A.map (·.1)).Nodup) : ((setA A k v).map (·.1)).Nodup := by
 cases hL : lookA A k with
 | none =>
  rw [setA_miss hL, List.map_append, List.nodup_append]
  refine ⟨h, by simp, ?_⟩
  rintro a ha b hb rfl
  simp only [List.map_cons, List.map_nil, List.mem_singleton] at hb
  subst hb; exact lookA_none.1 hL ha
 | some u =>
  obtain ⟨j, hj, hs⟩ := setA_hit hL
  have e : (A.set j (k, v)).map (·.1) = A.map (·.1) := by
   rw [List.map_set]
   apply List.ext_getElem?
   intro q
   rw [List.getElem?_set]
   split
   ·subst_vars
    split
    ·rw [List.getElem?_map, hj]; rfl
    ·rw [List.getElem?_eq_none (by omega)]
   ·rfl
  rw [hs, e]; exact h
theorem upV_snoc (x w : ByteArray) : ∀ (l r : List ByteArray) (σ : Sb), l.length = r.length → upV (l ++ [x]) (r ++ [w]) σ = up1 (upV l r σ) x w
 | [], [], σ, _ => rfl
 | v :: l, u :: r, σ, h => by rw [List.cons_append, List.cons_append, upV, upV_snoc x w l r _ (by simpa using h), upV]
 | [], u :: r, σ, h => by simp at h
 | v :: l, [], σ, h => by simp at h
theorem permAp {α : Type} (m r7 r6 a b c : α) (X : List α) : (m :: r7 :: r6 :: a :: b :: c :: X).Perm (r7 :: a :: b :: c :: m :: r6 :: X) := by
 refine (List.Perm.swap r7 m _).trans (.cons _ ?_)
 exact (List.perm_append_comm (l₁ := [m, r6]) (l₂ := [a, b, c])).append_right X
theorem tailD {P : Program} {f : FuncId} {args : List AV} {b b' : AH} {v : AV} (h : Tri P f args b (D v b')) (a : AH) : Tri P f args (a ++ b) (D v (a ++ b')) := by
 have := h.aroundD a []
 simpa using this
abbrev coreH (t : TypeId) (rn mt n : Nat) (tk : List ByteArray) (g : MG) : AH := [TB t, .box rn (nmAV mt n), .map mt (kvW bav (bmap tk)) g]
def ApM (mv : AV) (X : AH) (σ : Sb) : Prop := (mv = nilM ∧ X = [] ∧ σ = fun _ => none) ∨ ∃ mb M1 gm, mv = .map mb ∧ X = [.map mb (kvW AV.str M1) gm] ∧ (M1.map (·.1)).Nodup ∧ ∀ v, lookA M1 v = σ v
theorem renamed_any {mv : AV} {X : AH} {σ : Sb} (h : ApM mv X σ) (l : List ByteArray) (hl : l.length ≤ 8796093021952) : Tri Tryz.prog 100 [strs l, mv] X (D (strs (l.map (rnS σ))) X) := by
 rcases h with ⟨rfl, rfl, rfl⟩ | ⟨mb, M1, gm, rfl, rfl, _, h⟩
 ·have e : l.map (rnS fun _ => none) = l := (List.map_congr_left (f := rnS fun _ => none) (g := id) fun x _ => rfl).trans (List.map_id _)
  rw [e]
  exact n_renamed_nil l hl
 ·have e : l.map (rnS σ) = l.map (rnV M1) := List.map_congr_left fun x _ => by rw [rnS, rnV, h]
  rw [e]
  exact n_renamed M1 mb gm l hl
theorem n_apart (t : TypeId) (rn mt T : Nat) : ∀ (N : Nat) (f : GFml) (mv : AV) (X : AH) (σ : Sb) (tk : List ByteArray) (n : Nat) (g0 : MG), ndF f ≤ N → f.Ok → ApM mv X σ → tk.length + (bdF f).length ≤ T → n + (bdF f).length * (T + 1) ≤ 9000000000 →
  Tri Tryz.prog 54 [.ref rn 0, f.st, mv] (coreH t rn mt n tk g0 ++ X) (fun r h => r = .ret (apF f σ tk n).1.st ∧ ∃ g', h = coreH t rn mt (apF f σ tk n).2.2 (apF f σ tk n).2.1 g' ++ X) := by
 intro N
 induction N using Nat.strongRecOn with
 | _ N ih =>
  intro f mv X σ tk n g0 hN ho hM hT1 hT2
  have hnd := ndF_eq f
  have hW0 := n_with0 f ho
  have hW1 := fun h => n_with_own f h ho
  have ho2 := ho
  obtain ⟨⟨_, _, _, q4, q5⟩, q6, q7⟩ := ho
  have l4 := q4.1
  have l5 := q5.1
  have hR := renamed_any hM f.Args (by omega)
  obtain ⟨k, ar, nm, vars, args, kids⟩ := f
  rw [apF]
  rw [bdF, lA] at hT1 hT2
  rw [Nat.add_mul] at hT2
  simp only at *
  by_cases hv : vars = []
  ·subst hv
   have e0 : frL ([] : List ByteArray).length tk n = ([], n) := rfl
   have e1 : upV [] ([] : List ByteArray) σ = σ := rfl
   rw [e0]
   simp only [e1, List.append_nil]
   simp only [List.length_nil, Nat.zero_add, Nat.zero_mul] at hT1 hT2
   rw [Nat.add_zero] at hT2
   generalize hargs2 : args.map (rnS σ) = args2 at *
   have hM2 := hM
   rcases hM with ⟨rfl, rfl, rfl⟩ | ⟨mb, M1, gm, rfl, rfl, hM3, hM4⟩
   ·have hR' := Tri.pure hR
    refine Tri.enter 76 Tryz.func54 rfl rfl rfl rfl fun Fr w0 => ?_
    repeat' (first | (refine AW.r 0 ?_; (refine AL.d (AOp.box_ro (v := .st [.int .i64 k, .int .i64 ar, .str nm, strs [], strs args, .sl (kids.map GFml.av)]) rfl rfl) ?_) <;> refine AL.alloc_z (t := 25) zF (by kernel_rfl) rfl rfl fun r6 => ?_ <;> refine AL.nil ?_) | refine AW.go ?_ | fail)
    repeat' (first | (refine AW.r 1 ?_; refine AL.d AOp.la ?_; refine AL.d (AOp.call_nil2 rfl rfl (hW0.pure _)) ?_; refine AL.alloc_z (t := 25) zF (by kernel_rfl) rfl rfl fun r7 => ?_; refine AL.sl 0 ?_; refine AL.nil ?_) | refine AW.go ?_ | fail)
    repeat' (first | (refine AW.r 2 ?_; refine AL.d AOp.fa ?_; refine AL.d AOp.la ?_; refine AL.es 1 ?_; refine AL.d (AOp.call rfl rfl (hR' _)) ?_; refine AL.d (AOp.fr 4) ?_; refine AL.sl 0 ?_; refine AL.nil ?_) | (refine AW.r 3 ?_; refine AL.d AOp.fa ?_; refine AL.d AOp.la ?_; refine xN 2 ?_) | refine AW.jf ?_ | refine AW.go ?_ | fail)
    refine AW.weak_box 0 (.st [.int .i64 k, .int .i64 ar, .str nm, strs [], strs args2, .slt [] none 0]) rfl (.st (.cons (.refl _) (.cons (.refl _) (.cons (.refl _) (.cons (.refl _) (.cons (.refl _) (.cons wk_nil .nil))))))) ?_
    refine AW.own_nil 6 ?_
    refine AW.perm (b := [.tail none 0 0 6, .box r7 (.st [.int .i64 k, .int .i64 ar, .str nm, strs [], strs args2, .slt [] none 0]), TB t, .box rn (nmAV mt n), .map mt (kvW bav (bmap tk)) g0, .box r6 zF]) ((List.perm_append_comm (l₁ := [_]) (l₂ := [_, _, _])).cons _ |>.cons _) ?_
    repeat' (first | refine AW.re 16 4 ?_ | refine AW.go ?_ | fail)
    refine AW.prune [0, 2, 4, 6, 7, 59, 60, 61] (AW.loop (fun mz af h => ∃ (i : Nat) (o : List GFml) (tt : Option Nat) (cc : Nat) (tkk : List ByteArray) (nn : Nat) (gg : MG), i ≤ kids.length ∧ mz = kids.length - i ∧ af = [(0, .ref rn 0), (2, nilM), (4, .at (.st [.int .i64 k, .int .i64 ar, .str nm, strs [], strs args, .sl (kids.map GFml.av)])), (6, .ref r6 0), (7, .ref r7 0), (59, .sl (kids.map GFml.av)), (60, .int .i64 (kids.map GFml.av).length), (61, .int .i64 i)] ∧ h = [.tail tt (o.map GFml.av).length cc 6, .box r7 (.st [.int .i64 k, .int .i64 ar, .str nm, strs [], strs args2, .slt (o.map GFml.av) tt cc]), TB t, .box rn (nmAV mt nn), .map mt (kvW bav (bmap tkk)) gg, .box r6 zF] ∧ (apL kids (fun _ => none) tk n = (o ++ (apL (kids.drop i) (fun _ => none) tkk nn).1, (apL (kids.drop i) (fun _ => none) tkk nn).2) ∧ o.length = i ∧ tkk.length + (bdL (kids.drop i)).length ≤ T ∧ nn + (bdL (kids.drop i)).length * (T + 1) ≤ 9000000000)) kids.length ⟨0, [], none, 0, tk, n, g0, Nat.zero_le _, rfl, rfl, rfl, ⟨rfl, rfl, hT1, hT2⟩⟩ ?_)
    rintro mz af h ⟨i, o, tt, cc, tkk, nn, gg, hi, rfl, rfl, rfl, he⟩
    refine AW.seq ?_
    by_cases hlt : i < kids.length
    ·obtain ⟨he, hol, hb1, hb2⟩ := he
     obtain ⟨x, hx⟩ := get_lt hlt
     have hx' : (kids.map GFml.av)[((i : Nat) : Int).toNat]? = some (x.st) := GFml.get hx
     have hxm := lG hx
     have hnx := ndFs_mem hxm
     rw [drop_cons hx, bdL, lA] at hb1 hb2
     rw [Nat.add_mul] at hb2
     rw [drop_cons hx, apL] at he
     have hbd := ap_bd T x (fun _ => none) tkk nn (by omega)
     have htk := ap_tk x (fun _ => none) tkk nn
     have hc := Tri.around (ih (ndF x) (by omega) x (nilM) [] (fun _ => none) tkk nn gg (Nat.le_refl _) (q7 x hxm) hM2 (by omega) (by omega)) [.tail tt (o.map GFml.av).length cc 6, .box r7 (.st [.int .i64 k, .int .i64 ar, .str nm, strs [], strs args2, .slt (o.map GFml.av) tt cc])] []
     generalize hap : apF x (fun _ => none) tkk nn = R at *
     obtain ⟨y, tk2, n2⟩ := R
     simp only at htk hbd he hc
     have htl : tk2.length = tkk.length + (bdF x).length := by rw [htk, lA, hbd.2.2]
     have hol2 : o.length ≤ 1353245080300 := by omega
     have hm : (o ++ [y]).map GFml.av = o.map GFml.av ++ [y.st] := by simp [GFml.av_eq]
     repeat' (first | refine AW.re 17 1 ?_ | refine AW.jj (fun hb => ?_) (fun hb => ?_) | refine AW.go ?_ | fail)
     all_goals try (exfalso; simp only [dT, dF, lM] at *; omega)
     repeat' (first | (refine AW.r 18 ?_; refine AL.d (iX hx') ?_; refine AL.d AOp.la ?_; refine AL.alloc_z (t := 25) zF (by kernel_rfl) rfl rfl fun r14 => ?_; refine AL.sl 0 ?_; refine AL.nil ?_) | fail)
     repeat' (first | fail)
     refine AW.explore [false, true, true, true, true, true] [1, 5, 6, 7, 9] rfl (by kernel_rfl) (by kernel_rfl) (by kernel_rfl) (by kernel_rfl) ?_
     refine AQE.op rfl (AOp.fr 5) rfl rfl ?_
     refine AQE.hole rfl rfl ?_
     refine AQE.ev rfl rfl rfl rfl ?_
     refine AQE.op rfl (AOp.lw 0) rfl rfl ?_
     refine AQE.ev rfl rfl rfl rfl ?_
     refine AQE.hole rfl rfl ?_
     refine AQE.hole rfl rfl ?_
     refine AQE.hole rfl rfl ?_
     refine AQE.op rfl (AOp.fr 5) rfl rfl ?_
     refine AQE.hole rfl rfl ?_
     refine AQE.nil ?_
     repeat' (first | refine AX.two (n := 4) 1 5 rfl ?_ ?_ | refine AX.two (n := 3) 1 6 rfl ?_ ?_ | refine AX.one (n := 3) 5 rfl ?_ | refine AX.one (n := 2) 6 rfl ?_ | refine AX.one (n := 2) 1 rfl ?_ | refine AX.one (n := 1) 7 rfl ?_ | refine AX.one (n := 0) 9 rfl ?_ | (refine AXS.det (i := 1) rfl rfl rfl (AOp.ll 1) ?_; dsimp only [sA, sB]) | (refine AXS.step (i := 5) rfl rfl rfl (AOp.call rfl rfl hc) ?_ (by rintro _ _ ⟨_, ⟨e, _⟩, _⟩; cases e); rintro _ _ ⟨_, ⟨e, g', rfl⟩, rfl⟩; injection e with e; subst e; dsimp only [sA, sB]) | (refine AXS.det (i := 6) rfl rfl rfl (AOp.lit (e := 25) (sz := 6) (by kernel_rfl) rfl rfl rfl (P_one rfl) (by decide)) ?_; dsimp only [sA, sB]) | (refine AXS.at (q := 7) rfl rfl ?_; refine AXO.append (i := 0) (xs := o.map GFml.av) (e := 25) (sz := 6) (bytes := 104) rfl rfl rfl rfl (by kernel_rfl) (by kernel_rfl) (P_map GFml.size_av) (P_one rfl) rfl (by simp only [lM]; simp; omega) (by simp only [lM]; simp; omega) rfl fun b' c' => ?_; dsimp only [sA, sB]) | (refine AXS.at (q := 9) rfl rfl ?_; refine AXO.sl 1 (fun _ => ?_); dsimp only [sA, sB]) | fail)
     all_goals
      refine AX.done [(0, .ref rn 0), (2, nilM), (4, .at (.st [.int .i64 k, .int .i64 ar, .str nm, strs [], strs args, .sl (kids.map GFml.av)])), (6, .ref r6 0), (7, .ref r7 0), (59, .sl (kids.map GFml.av)), (60, .int .i64 (kids.map GFml.av).length), (61, .int .i64 i)] rfl ?_
      refine AW.drop (ah' := [.tail b' ((o ++ [y]).map GFml.av).length c' 6, .box r7 (.st [.int .i64 k, .int .i64 ar, .str nm, strs [], strs args2, .slt ((o ++ [y]).map GFml.av) b' c']), TB t, .box rn (nmAV mt n2), .map mt (kvW bav (bmap tk2)) g', .box r6 zF]) (by rw [hm]; exact List.Sublist.cons_cons _ <| List.Sublist.cons_cons _ <| List.Sublist.cons_cons _ <| List.Sublist.cons_cons _ <| List.Sublist.cons_cons _ <| List.sublist_cons_self _ _) ?_
      repeat' (first | (refine AW.r 20 ?_; refine AL.d AOp.ad ?_; refine xN 1 ?_) | fail)
      refine AW.again_keep (kids.length - (i + 1)) [0, 2, 4, 6, 7, 59, 60, 61] (by omega) ⟨i + 1, o ++ [y], b', c', tk2, n2, g', hlt, rfl, rfl, rfl, ?_⟩
      refine ⟨by rw [he]; simp, by simp; omega, by omega, by omega⟩
    ·obtain ⟨he, hol, _, _⟩ := he
     rw [List.drop_eq_nil_of_le (by omega), apL] at he
     simp only [List.append_nil] at he
     rw [he]
     refine AW.weak_box 1 (.st [.int .i64 k, .int .i64 ar, .str nm, strs [], strs args2, .sl (o.map GFml.av)]) rfl (.st (.cons (.refl _) (.cons (.refl _) (.cons (.refl _) (.cons (.refl _) (.cons (.refl _) (.cons .slt .nil))))))) ?_
     repeat' (first | refine AW.re 17 1 ?_ | refine AW.jj (fun hb => ?_) (fun hb => ?_) | refine AW.go ?_ | fail)
     all_goals try (exfalso; simp only [dT, dF, lM] at *; omega)
     repeat' (first | (refine AW.r 21 ?_; refine AL.d (AOp.lw 1) ?_; refine AL.sl 5 ?_; refine AL.nil ?_) | fail)
     exact AW.retc (.cell 5 rfl rfl (by kernel_rfl) .nil) (.cons _ (.cons _ (.cons_cons _ (.cons_cons _ (.cons_cons _ (.cons _ .slnil)))))) ⟨rfl, gg, rfl⟩
   ·refine Tri.enter 76 Tryz.func54 rfl rfl rfl rfl fun Fr w0 => ?_
    repeat' (first | (refine AW.r 0 ?_; (refine AL.d (AOp.box_ro (v := .st [.int .i64 k, .int .i64 ar, .str nm, strs [], strs args, .sl (kids.map GFml.av)]) rfl rfl) ?_) <;> refine AL.alloc_z (t := 25) zF (by kernel_rfl) rfl rfl fun r6 => ?_ <;> refine AL.nil ?_) | refine AW.go ?_ | fail)
    repeat' (first | (refine AW.r 1 ?_; refine AL.d AOp.la ?_; refine AL.d (AOp.call_nil2 rfl rfl (hW0.pure _)) ?_; refine AL.alloc_z (t := 25) zF (by kernel_rfl) rfl rfl fun r7 => ?_; refine AL.sl 0 ?_; refine AL.nil ?_) | refine AW.go ?_ | fail)
    repeat' (first | (refine AW.r 2 ?_; refine AL.d AOp.fa ?_; refine AL.d AOp.la ?_; refine AL.es 1 ?_; refine AL.d (AOp.call rfl rfl (Tri.aroundD hR [_, _, _, _, _] [])) ?_; refine AL.d (AOp.fr 4) ?_; refine AL.sl 0 ?_; refine AL.nil ?_) | (refine AW.r 3 ?_; refine AL.d AOp.fa ?_; refine AL.d AOp.la ?_; refine xN 2 ?_) | refine AW.jf ?_ | refine AW.go ?_ | fail)
    refine AW.weak_box 0 (.st [.int .i64 k, .int .i64 ar, .str nm, strs [], strs args2, .slt [] none 0]) rfl (.st (.cons (.refl _) (.cons (.refl _) (.cons (.refl _) (.cons (.refl _) (.cons (.refl _) (.cons wk_nil .nil))))))) ?_
    refine AW.own_nil 6 ?_
    refine AW.perm (b := [.tail none 0 0 6, .box r7 (.st [.int .i64 k, .int .i64 ar, .str nm, strs [], strs args2, .slt [] none 0]), TB t, .box rn (nmAV mt n), .map mt (kvW bav (bmap tk)) g0, .map mb (kvW AV.str M1) gm, .box r6 zF]) ((List.perm_append_comm (l₁ := [_]) (l₂ := [_, _, _, _])).cons _ |>.cons _) ?_
    repeat' (first | refine AW.re 16 4 ?_ | refine AW.go ?_ | fail)
    refine AW.prune [0, 2, 4, 6, 7, 59, 60, 61] (AW.loop (fun mz af h => ∃ (i : Nat) (o : List GFml) (tt : Option Nat) (cc : Nat) (tkk : List ByteArray) (nn : Nat) (gg : MG), i ≤ kids.length ∧ mz = kids.length - i ∧ af = [(0, .ref rn 0), (2, .map mb), (4, .at (.st [.int .i64 k, .int .i64 ar, .str nm, strs [], strs args, .sl (kids.map GFml.av)])), (6, .ref r6 0), (7, .ref r7 0), (59, .sl (kids.map GFml.av)), (60, .int .i64 (kids.map GFml.av).length), (61, .int .i64 i)] ∧ h = [.tail tt (o.map GFml.av).length cc 6, .box r7 (.st [.int .i64 k, .int .i64 ar, .str nm, strs [], strs args2, .slt (o.map GFml.av) tt cc]), TB t, .box rn (nmAV mt nn), .map mt (kvW bav (bmap tkk)) gg, .map mb (kvW AV.str M1) gm, .box r6 zF] ∧ (apL kids σ tk n = (o ++ (apL (kids.drop i) σ tkk nn).1, (apL (kids.drop i) σ tkk nn).2) ∧ o.length = i ∧ tkk.length + (bdL (kids.drop i)).length ≤ T ∧ nn + (bdL (kids.drop i)).length * (T + 1) ≤ 9000000000)) kids.length ⟨0, [], none, 0, tk, n, g0, Nat.zero_le _, rfl, rfl, rfl, ⟨rfl, rfl, hT1, hT2⟩⟩ ?_)
    rintro mz af h ⟨i, o, tt, cc, tkk, nn, gg, hi, rfl, rfl, rfl, he⟩
    refine AW.seq ?_
    by_cases hlt : i < kids.length
    ·obtain ⟨he, hol, hb1, hb2⟩ := he
     obtain ⟨x, hx⟩ := get_lt hlt
     have hx' : (kids.map GFml.av)[((i : Nat) : Int).toNat]? = some (x.st) := GFml.get hx
     have hxm := lG hx
     have hnx := ndFs_mem hxm
     rw [drop_cons hx, bdL, lA] at hb1 hb2
     rw [Nat.add_mul] at hb2
     rw [drop_cons hx, apL] at he
     have hbd := ap_bd T x σ tkk nn (by omega)
     have htk := ap_tk x σ tkk nn
     have hc := Tri.around (ih (ndF x) (by omega) x (.map mb) [.map mb (kvW AV.str M1) gm] σ tkk nn gg (Nat.le_refl _) (q7 x hxm) hM2 (by omega) (by omega)) [.tail tt (o.map GFml.av).length cc 6, .box r7 (.st [.int .i64 k, .int .i64 ar, .str nm, strs [], strs args2, .slt (o.map GFml.av) tt cc])] []
     generalize hap : apF x σ tkk nn = R at *
     obtain ⟨y, tk2, n2⟩ := R
     simp only at htk hbd he hc
     have htl : tk2.length = tkk.length + (bdF x).length := by rw [htk, lA, hbd.2.2]
     have hol2 : o.length ≤ 1353245080300 := by omega
     have hm : (o ++ [y]).map GFml.av = o.map GFml.av ++ [y.st] := by simp [GFml.av_eq]
     repeat' (first | refine AW.re 17 1 ?_ | refine AW.jj (fun hb => ?_) (fun hb => ?_) | refine AW.go ?_ | fail)
     all_goals try (exfalso; simp only [dT, dF, lM] at *; omega)
     repeat' (first | (refine AW.r 18 ?_; refine AL.d (iX hx') ?_; refine AL.d AOp.la ?_; refine AL.alloc_z (t := 25) zF (by kernel_rfl) rfl rfl fun r14 => ?_; refine AL.sl 0 ?_; refine AL.nil ?_) | fail)
     repeat' (first | fail)
     refine AW.explore [false, true, true, true, true, true, true] [1, 5, 6, 7, 9] rfl (by kernel_rfl) (by kernel_rfl) (by kernel_rfl) (by kernel_rfl) ?_
     refine AQE.op rfl (AOp.fr 5) rfl rfl ?_
     refine AQE.hole rfl rfl ?_
     refine AQE.ev rfl rfl rfl rfl ?_
     refine AQE.op rfl (AOp.lw 0) rfl rfl ?_
     refine AQE.ev rfl rfl rfl rfl ?_
     refine AQE.hole rfl rfl ?_
     refine AQE.hole rfl rfl ?_
     refine AQE.hole rfl rfl ?_
     refine AQE.op rfl (AOp.fr 5) rfl rfl ?_
     refine AQE.hole rfl rfl ?_
     refine AQE.nil ?_
     repeat' (first | refine AX.two (n := 4) 1 5 rfl ?_ ?_ | refine AX.two (n := 3) 1 6 rfl ?_ ?_ | refine AX.one (n := 3) 5 rfl ?_ | refine AX.one (n := 2) 6 rfl ?_ | refine AX.one (n := 2) 1 rfl ?_ | refine AX.one (n := 1) 7 rfl ?_ | refine AX.one (n := 0) 9 rfl ?_ | (refine AXS.det (i := 1) rfl rfl rfl (AOp.ll 1) ?_; dsimp only [sA, sB]) | (refine AXS.step (i := 5) rfl rfl rfl (AOp.call rfl rfl hc) ?_ (by rintro _ _ ⟨_, ⟨e, _⟩, _⟩; cases e); rintro _ _ ⟨_, ⟨e, g', rfl⟩, rfl⟩; injection e with e; subst e; dsimp only [sA, sB]) | (refine AXS.det (i := 6) rfl rfl rfl (AOp.lit (e := 25) (sz := 6) (by kernel_rfl) rfl rfl rfl (P_one rfl) (by decide)) ?_; dsimp only [sA, sB]) | (refine AXS.at (q := 7) rfl rfl ?_; refine AXO.append (i := 0) (xs := o.map GFml.av) (e := 25) (sz := 6) (bytes := 104) rfl rfl rfl rfl (by kernel_rfl) (by kernel_rfl) (P_map GFml.size_av) (P_one rfl) rfl (by simp only [lM]; simp; omega) (by simp only [lM]; simp; omega) rfl fun b' c' => ?_; dsimp only [sA, sB]) | (refine AXS.at (q := 9) rfl rfl ?_; refine AXO.sl 1 (fun _ => ?_); dsimp only [sA, sB]) | fail)
     all_goals
      refine AX.done [(0, .ref rn 0), (2, .map mb), (4, .at (.st [.int .i64 k, .int .i64 ar, .str nm, strs [], strs args, .sl (kids.map GFml.av)])), (6, .ref r6 0), (7, .ref r7 0), (59, .sl (kids.map GFml.av)), (60, .int .i64 (kids.map GFml.av).length), (61, .int .i64 i)] rfl ?_
      refine AW.drop (ah' := [.tail b' ((o ++ [y]).map GFml.av).length c' 6, .box r7 (.st [.int .i64 k, .int .i64 ar, .str nm, strs [], strs args2, .slt ((o ++ [y]).map GFml.av) b' c']), TB t, .box rn (nmAV mt n2), .map mt (kvW bav (bmap tk2)) g', .map mb (kvW AV.str M1) gm, .box r6 zF]) (by rw [hm]; exact List.Sublist.cons_cons _ <| List.Sublist.cons_cons _ <| List.Sublist.cons_cons _ <| List.Sublist.cons_cons _ <| List.Sublist.cons_cons _ <| List.Sublist.cons_cons _ <| List.sublist_cons_self _ _) ?_
      repeat' (first | (refine AW.r 20 ?_; refine AL.d AOp.ad ?_; refine xN 1 ?_) | fail)
      refine AW.again_keep (kids.length - (i + 1)) [0, 2, 4, 6, 7, 59, 60, 61] (by omega) ⟨i + 1, o ++ [y], b', c', tk2, n2, g', hlt, rfl, rfl, rfl, ?_⟩
      refine ⟨by rw [he]; simp, by simp; omega, by omega, by omega⟩
    ·obtain ⟨he, hol, _, _⟩ := he
     rw [List.drop_eq_nil_of_le (by omega), apL] at he
     simp only [List.append_nil] at he
     rw [he]
     refine AW.weak_box 1 (.st [.int .i64 k, .int .i64 ar, .str nm, strs [], strs args2, .sl (o.map GFml.av)]) rfl (.st (.cons (.refl _) (.cons (.refl _) (.cons (.refl _) (.cons (.refl _) (.cons (.refl _) (.cons .slt .nil))))))) ?_
     repeat' (first | refine AW.re 17 1 ?_ | refine AW.jj (fun hb => ?_) (fun hb => ?_) | refine AW.go ?_ | fail)
     all_goals try (exfalso; simp only [dT, dF, lM] at *; omega)
     repeat' (first | (refine AW.r 21 ?_; refine AL.d (AOp.lw 1) ?_; refine AL.sl 6 ?_; refine AL.nil ?_) | fail)
     exact AW.retc (.cell 6 rfl rfl (by kernel_rfl) .nil) (.cons _ (.cons _ (.cons_cons _ (.cons_cons _ (.cons_cons _ (.cons_cons _ (.cons _ .slnil))))))) ⟨rfl, gg, rfl⟩
  ·have hvl : 0 < vars.length := List.length_pos_iff.2 hv
   have hW1' := hW1 hv
   generalize hargs2 : args.map (rnS σ) = args2 at *
   refine Tri.enter 76 Tryz.func54 rfl rfl rfl rfl fun Fr w0 => ?_
   repeat' (first | (refine AW.r 0 ?_; (refine AL.d (AOp.box_ro (v := .st [.int .i64 k, .int .i64 ar, .str nm, strs vars, strs args, .sl (kids.map GFml.av)]) rfl rfl) ?_) <;> refine AL.alloc_z (t := 25) zF (by kernel_rfl) rfl rfl fun r6 => ?_ <;> refine AL.nil ?_) | refine AW.go ?_ | fail)
   repeat' (first | (refine AW.r 1 ?_; refine AL.d AOp.la ?_; (refine AL.callQ_nil2 rfl rfl (hW1'.pureE _) rfl ?_ ?_; rotate_left; rintro _ _ ⟨_, ⟨_, _, e, _⟩, _⟩; cases e; rintro _ _ ⟨_, ⟨vb, vc, e, rfl⟩, rfl⟩; injection e with e; subst e) <;> refine AL.alloc_z (t := 25) zF (by kernel_rfl) rfl rfl fun r7 => ?_ <;> refine AL.sl 0 ?_ <;> refine AL.nil ?_) | refine AW.go ?_ | fail)
   repeat' (first | (refine AW.r 2 ?_; refine AL.d AOp.fa ?_; refine AL.d AOp.la ?_; refine AL.es 1 ?_; refine AL.d (AOp.call rfl rfl (tailD hR [_, _, _, _, _, _])) ?_; refine AL.d (AOp.fr 4) ?_; refine AL.sl 0 ?_; refine AL.nil ?_) | (refine AW.r 3 ?_; refine AL.d AOp.fa ?_; refine AL.d AOp.la ?_; refine xN 2 ?_) | refine AW.jj (fun hb => ?_) (fun hb => ?_) | refine AW.go ?_ | fail)
   all_goals try (exfalso; simp only [dT, dF, lM] at *; omega)
   repeat' (first | (refine AW.r 4 ?_; refine AL.makeMap rfl fun m8 => ?_; refine xN 1 ?_) | fail)
   refine AW.seq ?_
   refine AW.cut (fun af ah => ∃ (A : List (ByteArray × ByteArray)) (g8 : MG), (A.map (·.1)).Nodup ∧ (∀ v, lookA A v = σ v) ∧ af = [(0, .ref rn 0), (4, .at (.st [.int .i64 k, .int .i64 ar, .str nm, strs vars, strs args, .sl (kids.map GFml.av)])), (6, .ref r6 0), (7, .ref r7 0), (8, .map m8)] ∧ ah = .map m8 (kvW AV.str A) g8 :: [.box r7 (.st [.int .i64 k, .int .i64 ar, .str nm, .osl vb vars.length vc, strs args2, nilS]), .row vb (vars.map AV.str), .box r6 zF, TB t, .box rn (nmAV mt n), .map mt (kvW bav (bmap tk)) g0] ++ X) ?_ ?_
   ·rcases hM with ⟨rfl, rfl, rfl⟩ | ⟨mb, M1, gm, rfl, rfl, hM3, hM4⟩
    ·repeat' (first | (refine xS 5 1 ?_; refine AL.range_nil 9 .string rfl (by kernel_rfl) rfl fun it => ?_; refine AL.nil ?_) | refine AW.go ?_ | fail)
     refine AW.prune [0, 4, 6, 7, 8, 28] (AW.loop (fun m af h => m = 0 ∧ af = [(0, .ref rn 0), (4, .at (.st [.int .i64 k, .int .i64 ar, .str nm, strs vars, strs args, .sl (kids.map GFml.av)])), (6, .ref r6 0), (7, .ref r7 0), (8, .map m8), (28, .ref it 0)] ∧ h = .niter it :: .map m8 (kvW AV.str []) ⟨[], 0⟩ :: [.box r7 (.st [.int .i64 k, .int .i64 ar, .str nm, .osl vb vars.length vc, strs args2, nilS]), .row vb (vars.map AV.str), .box r6 zF, TB t, .box rn (nmAV mt n), .map mt (kvW bav (bmap tk)) g0]) 0 ⟨rfl, rfl, rfl⟩ ?_)
     rintro m af h ⟨rfl, rfl, rfl⟩
     refine AW.seq ?_
     repeat' (first | (refine AW.r 6 ?_; refine AL.d (AOp.next_nil 0 rfl rfl) ?_; refine xN 1 ?_) | refine AW.jf ?_ | refine AW.go ?_ | fail)
     refine AW.drop (List.sublist_cons_self _ _) ?_
     exact AW.meet [0, 4, 6, 7, 8] ⟨[], _, List.nodup_nil, fun v => rfl, rfl, rfl⟩
    ·repeat' (first | (refine xS 5 1 ?_; refine AL.range 7 9 .string rfl rfl (by kernel_rfl) rfl fun it => ?_; refine AL.nil ?_) | refine AW.go ?_ | fail)
     refine AW.prune [0, 4, 6, 7, 8, 28] (AW.loop (fun m af h => ∃ (idx : List Nat) (A : List (ByteArray × ByteArray)) (g8 : MG), CopyOf M1 A idx ∧ idx.Nodup ∧ (∀ j ∈ idx, j < M1.length) ∧ m = M1.length - idx.length ∧ af = [(0, .ref rn 0), (4, .at (.st [.int .i64 k, .int .i64 ar, .str nm, strs vars, strs args, .sl (kids.map GFml.av)])), (6, .ref r6 0), (7, .ref r7 0), (8, .map m8), (28, .ref it 0)] ∧ h = .iter it mb gm.clk (seenOf gm idx) :: .map m8 (kvW AV.str A) g8 :: [.box r7 (.st [.int .i64 k, .int .i64 ar, .str nm, .osl vb vars.length vc, strs args2, nilS]), .row vb (vars.map AV.str), .box r6 zF, TB t, .box rn (nmAV mt n), .map mt (kvW bav (bmap tk)) g0] ++ [.map mb (kvW AV.str M1) gm]) M1.length ⟨[], [], ⟨[], 0⟩, ⟨List.nodup_nil, by simp⟩, List.nodup_nil, by simp, rfl, rfl, rfl⟩ ?_)
     rintro m af h ⟨idx, A, g8, hA, hn1, hn2, rfl, rfl, rfl⟩
     refine AW.seq ?_
     have hkl : (kvW AV.str M1).length = M1.length := by simp [kvW]
     repeat' (first | (refine AW.r 6 ?_; refine AL.next 8 0 idx rfl rfl rfl (by rw [hkl]; exact hn2) rfl (fun hall => ?_) (fun j key v hk1 hk2 => ?_) <;> refine AL.es 1 ?_ <;> refine AL.nil ?_) | refine AW.jt ?_ | refine AW.jf ?_ | refine AW.go ?_ | fail)
     ·refine AW.drop (List.sublist_cons_self _ _) ?_
      rw [hkl] at hall
      exact AW.meet [0, 4, 6, 7, 8] ⟨A, _, hA.1, fun v => by rw [hA.all hM3 hall, hM4], rfl, rfl⟩
     ·obtain ⟨kk, ww, hkw, rfl, rfl⟩ : ∃ kk ww, M1[j]? = some (kk, ww) ∧ key = .str kk ∧ v = .str ww := by
       unfold kvW at hk2
       rw [List.getElem?_map] at hk2
       cases hj : M1[j]? with
       | none => rw [hj] at hk2; cases hk2
       | some p => rw [hj] at hk2; simp only [Option.map_some, Option.some.injEq, Prod.mk.injEq] at hk2; exact ⟨p.1, p.2, rfl, hk2.1.symm, hk2.2.symm⟩
      have hjl := (List.getElem?_eq_some_iff.1 hkw).1
      have hn3 : (idx ++ [j]).Nodup := List.nodup_append.2 ⟨hn1, by simp, by rintro a ha b hb rfl; rw [List.mem_singleton.1 hb] at ha; exact hk1 ha⟩
      have hn4 : ∀ q ∈ idx ++ [j], q < M1.length := by
       intro q hq
       rcases List.mem_append.1 hq with hq | hq
       ·exact hn2 q hq
       ·rw [List.mem_singleton.1 hq]; exact hjl
      have hlen := nodup_bound M1.length _ hn3 hn4
      rw [lA, List.length_singleton] at hlen
      repeat' (first | (refine AW.r 7 ?_; refine AL.d (AOp.entry (i := 8) (j := 0) (k := j) rfl rfl rfl hk2) ?_; refine xN 4 ?_) | (refine xS 8 3 ?_; refine AL.setS 1 9 AV.str ww rfl rfl rfl rfl (by kernel_rfl) ?_; refine AL.nil ?_) | refine AW.go ?_ | fail)
      exact AW.again_keep (M1.length - (idx ++ [j]).length) [0, 4, 6, 7, 8, 28] (by rw [lA, List.length_singleton]; omega) ⟨idx ++ [j], setA A kk ww, _, hA.step hM3 hk1 hkw, hn3, hn4, rfl, rfl, rfl⟩
   ·rintro af ah ⟨A, g8, hA1, hA2, rfl, rfl⟩
    repeat' (first | refine AW.re 9 4 ?_ | refine AW.go ?_ | fail)
    refine AW.prune [0, 4, 6, 7, 8, 38, 39, 40] (AW.loop (fun mz af h => ∃ (i : Nat) (B : List (ByteArray × ByteArray)) (gB : MG) (W : List ByteArray) (tk1 : List ByteArray) (n1 : Nat) (g1 : MG), i ≤ vars.length ∧ mz = vars.length - i ∧ af = [(0, .ref rn 0), (4, .at (.st [.int .i64 k, .int .i64 ar, .str nm, strs vars, strs args, .sl (kids.map GFml.av)])), (6, .ref r6 0), (7, .ref r7 0), (8, .map m8), (38, strs vars), (39, .int .i64 (vars.map AV.str).length), (40, .int .i64 i)] ∧ h = .map m8 (kvW AV.str B) gB :: .box r7 (.st [.int .i64 k, .int .i64 ar, .str nm, .osl vb vars.length vc, strs args2, nilS]) :: .row vb (W.map AV.str ++ (vars.drop i).map AV.str) :: .box r6 zF :: (coreH t rn mt n1 tk1 g1 ++ X) ∧ (W.length = i ∧ tk1 = tk ++ W ∧ frL vars.length tk n = (W ++ (frL (vars.length - i) tk1 n1).1, (frL (vars.length - i) tk1 n1).2) ∧ (B.map (·.1)).Nodup ∧ (∀ v, lookA B v = upV (vars.take i) W σ v) ∧ n1 ≤ n + i * (T + 1))) vars.length ⟨0, A, g8, [], tk, n, g0, Nat.zero_le _, rfl, rfl, rfl, ⟨rfl, by simp, rfl, hA1, hA2, by omega⟩⟩ ?_)
    rintro mz af h ⟨i, B, gB, W, tk1, n1, g1, hi, rfl, rfl, rfl, he⟩
    refine AW.seq ?_
    by_cases hlt : i < vars.length
    ·obtain ⟨hW, htk, he, hB1, hB2, hnn⟩ := he
     obtain ⟨x, hx⟩ := get_lt hlt
     have hx' : (vars.map AV.str)[((i : Nat) : Int).toNat]? = some (.str x) := map_get hx
     rw [drop_cons hx]
     have hi1 : (i + 1) * (T + 1) ≤ vars.length * (T + 1) := Nat.mul_le_mul_right _ hlt
     rw [Nat.succ_mul] at hi1
     have htl : tk1.length ≤ T := by rw [htk, lA, hW]; omega
     have hc := Tri.around (n_fresh t rn mt tk1 n1 g1 (by omega)) [.map m8 (kvW AV.str B) gB, .box r7 (.st [.int .i64 k, .int .i64 ar, .str nm, .osl vb vars.length vc, strs args2, nilS]), .row vb (W.map AV.str ++ (x :: vars.drop (i + 1)).map AV.str), .box r6 zF] X
     have hspec := frS_spec tk1 n1
     rw [show vars.length - i = (vars.length - (i + 1)) + 1 by omega, frL] at he
     generalize hm : frS tk1 n1 = m at *
     generalize hw : wB m = w at *
     have hL : lookA (setA B x w) x = some w := by rw [look_setA, if_pos rfl]
     repeat' (first | refine AW.re 10 1 ?_ | (refine xS 11 1 ?_; refine AL.d (iX hx') ?_; refine xN 3 ?_) | refine AW.jj (fun hb => ?_) (fun hb => ?_) | refine AW.go ?_ | fail)
     all_goals try (exfalso; simp only [dT, dF, lM] at *; omega)
     repeat' (first | (refine xS 12 3 ?_; (refine AL.callQ rfl rfl hc rfl ?_ ?_; rotate_left; rintro _ _ ⟨_, ⟨e, _⟩, _⟩; cases e; rintro _ _ ⟨_, ⟨e, g', rfl⟩, rfl⟩; injection e with e; subst e) <;> refine AL.setS 0 9 AV.str w rfl rfl rfl rfl (by kernel_rfl) ?_ <;> refine AL.nil ?_) | fail)
     repeat' (first | (refine AW.r 13 ?_; refine AL.d (AOp.fr 3) ?_; refine AL.d (AOp.ll 1) ?_; refine AL.es 3 ?_; refine AL.d (AOp.lookS_hit 0 9 (g := AV.str) (ok := false) hL rfl rfl rfl (by kernel_rfl)) ?_; refine AL.d (AOp.index_osl rfl rfl (by omega) (by omega) (by kernel_rfl)) ?_; ((refine AL.store_cell 2 rfl rfl rfl (by simp; omega) rfl rfl (by kernel_rfl) ?_)) <;> refine AL.nil ?_) | refine AW.go ?_ | fail)
     have hrow : (W.map AV.str ++ (x :: vars.drop (i + 1)).map AV.str).set ((i : Nat) : Int).toNat (.str w) = (W ++ [w]).map AV.str ++ (vars.drop (i + 1)).map AV.str := by
      rw [Int.toNat_natCast, List.set_append_right _ _ (by simp; omega)]; simp [hW]
     refine AW.frame_eq rfl (show _ = .map m8 (kvW AV.str (setA B x w)) (gsetA B gB x) :: .box r7 (.st [.int .i64 k, .int .i64 ar, .str nm, .osl vb vars.length vc, strs args2, nilS]) :: .row vb ((W ++ [w]).map AV.str ++ (vars.drop (i + 1)).map AV.str) :: .box r6 zF :: (coreH t rn mt (m + 1) (tk1 ++ [w]) g' ++ X) from by rw [← hrow]; rfl) ?_
     repeat' (first | (refine AW.r 14 ?_; refine AL.d AOp.ad ?_; refine xN 1 ?_) | fail)
     refine AW.again_keep (vars.length - (i + 1)) [0, 4, 6, 7, 8, 38, 39, 40] (by omega) ⟨i + 1, setA B x w, _, W ++ [w], tk1 ++ [w], m + 1, g', hlt, rfl, rfl, rfl, ?_⟩
     refine ⟨by simp [hW], by rw [htk, List.append_assoc], by rw [he]; simp, setA_nodup hB1, fun v => ?_, by rw [Nat.succ_mul]; omega⟩
     rw [look_setA, hB2, List.take_add_one, hx]
     show _ = upV (vars.take i ++ [x]) (W ++ [w]) σ v
     exact (congrFun (upV_snoc x w (vars.take i) W σ (by rw [List.length_take, hW]; omega)) v).symm
    ·obtain ⟨hW, htk, he, hB1, hB2, hnn⟩ := he
     obtain rfl : i = vars.length := by omega
     rw [Nat.sub_self, frL] at he
     simp only [List.append_nil] at he
     rw [List.take_length] at hB2
     rw [he, List.drop_length, List.map_nil, List.append_nil]
     simp only
     rw [← htk]
     repeat' (first | refine AW.re 10 1 ?_ | refine AW.jj (fun hb => ?_) (fun hb => ?_) | refine AW.go ?_ | fail)
     all_goals try (exfalso; simp only [dT, dF, lM] at *; omega)
     refine AW.freeze_box 2 1 (n := vars.length) (c := vc) (.st [.int .i64 k, .int .i64 ar, .str nm, strs W, strs args2, nilS]) rfl rfl (by rw [lM, hW]) (by intro y hy; obtain ⟨z, _, rfl⟩ := List.mem_map.1 hy; rfl) (fun S w h cs hr => relc_set 3 (strs W) rfl h hr) ?_
     repeat' (first | refine AW.re 15 2 ?_ | refine AW.go ?_ | fail)
     refine AW.weak_box 1 (.st [.int .i64 k, .int .i64 ar, .str nm, strs W, strs args2, .slt [] none 0]) rfl (.st (.cons (.refl _) (.cons (.refl _) (.cons (.refl _) (.cons (.refl _) (.cons (.refl _) (.cons wk_nil .nil))))))) ?_
     refine AW.own_nil 6 ?_
     refine AW.perm (b := [.tail none 0 0 6, .box r7 (.st [.int .i64 k, .int .i64 ar, .str nm, strs W, strs args2, .slt [] none 0]), TB t, .box rn (nmAV mt n1), .map mt (kvW bav (bmap tk1)) g1, .map m8 (kvW AV.str B) gB, .box r6 zF] ++ X) (((permAp _ _ _ _ _ _ X)).cons _) ?_
     have hT1 : tk1.length + (bdL kids).length ≤ T := by rw [htk, lA, hW]; omega
     have hT2 : n1 + (bdL kids).length * (T + 1) ≤ 9000000000 := by omega
     have hM2 : ApM (.map m8) [.map m8 (kvW AV.str B) gB] (upV vars W σ) := .inr ⟨m8, B, gB, rfl, rfl, hB1, hB2⟩
     repeat' (first | refine AW.re 16 4 ?_ | refine AW.go ?_ | fail)
     refine AW.prune [0, 2, 4, 6, 7, 59, 60, 61] (AW.loop (fun mz af h => ∃ (i : Nat) (o : List GFml) (tt : Option Nat) (cc : Nat) (tkk : List ByteArray) (nn : Nat) (gg : MG), i ≤ kids.length ∧ mz = kids.length - i ∧ af = [(0, .ref rn 0), (2, .map m8), (4, .at (.st [.int .i64 k, .int .i64 ar, .str nm, strs vars, strs args, .sl (kids.map GFml.av)])), (6, .ref r6 0), (7, .ref r7 0), (59, .sl (kids.map GFml.av)), (60, .int .i64 (kids.map GFml.av).length), (61, .int .i64 i)] ∧ h = [.tail tt (o.map GFml.av).length cc 6, .box r7 (.st [.int .i64 k, .int .i64 ar, .str nm, strs W, strs args2, .slt (o.map GFml.av) tt cc]), TB t, .box rn (nmAV mt nn), .map mt (kvW bav (bmap tkk)) gg, .map m8 (kvW AV.str B) gB, .box r6 zF] ++ X ∧ (apL kids (upV vars W σ) tk1 n1 = (o ++ (apL (kids.drop i) (upV vars W σ) tkk nn).1, (apL (kids.drop i) (upV vars W σ) tkk nn).2) ∧ o.length = i ∧ tkk.length + (bdL (kids.drop i)).length ≤ T ∧ nn + (bdL (kids.drop i)).length * (T + 1) ≤ 9000000000)) kids.length ⟨0, [], none, 0, tk1, n1, g1, Nat.zero_le _, rfl, rfl, rfl, ⟨rfl, rfl, hT1, hT2⟩⟩ ?_)
     rintro mz af h ⟨i, o, tt, cc, tkk, nn, gg, hi, rfl, rfl, rfl, he⟩
     refine AW.seq ?_
     by_cases hlt : i < kids.length
     ·obtain ⟨he, hol, hb1, hb2⟩ := he
      obtain ⟨x, hx⟩ := get_lt hlt
      have hx' : (kids.map GFml.av)[((i : Nat) : Int).toNat]? = some (x.st) := GFml.get hx
      have hxm := lG hx
      have hnx := ndFs_mem hxm
      rw [drop_cons hx, bdL, lA] at hb1 hb2
      rw [Nat.add_mul] at hb2
      rw [drop_cons hx, apL] at he
      have hbd := ap_bd T x (upV vars W σ) tkk nn (by omega)
      have htk := ap_tk x (upV vars W σ) tkk nn
      have hc := Tri.around (ih (ndF x) (by omega) x (.map m8) [.map m8 (kvW AV.str B) gB] (upV vars W σ) tkk nn gg (Nat.le_refl _) (q7 x hxm) hM2 (by omega) (by omega)) [.tail tt (o.map GFml.av).length cc 6, .box r7 (.st [.int .i64 k, .int .i64 ar, .str nm, strs W, strs args2, .slt (o.map GFml.av) tt cc])] []
      generalize hap : apF x (upV vars W σ) tkk nn = R at *
      obtain ⟨y, tk2, n2⟩ := R
      simp only at htk hbd he hc
      have htl : tk2.length = tkk.length + (bdF x).length := by rw [htk, lA, hbd.2.2]
      have hol2 : o.length ≤ 1353245080300 := by omega
      have hm : (o ++ [y]).map GFml.av = o.map GFml.av ++ [y.st] := by simp [GFml.av_eq]
      repeat' (first | refine AW.re 17 1 ?_ | refine AW.jj (fun hb => ?_) (fun hb => ?_) | refine AW.go ?_ | fail)
      all_goals try (exfalso; simp only [dT, dF, lM] at *; omega)
      repeat' (first | (refine AW.r 18 ?_; refine AL.d (iX hx') ?_; refine AL.d AOp.la ?_; refine AL.alloc_z (t := 25) zF (by kernel_rfl) rfl rfl fun r14 => ?_; refine AL.sl 0 ?_; refine AL.nil ?_) | fail)
      repeat' (first | fail)
      refine AW.explore [false, true, true, true, true, true, true] [1, 5, 6, 7, 9] rfl (by kernel_rfl) (by kernel_rfl) (by kernel_rfl) (by kernel_rfl) ?_
      refine AQE.op rfl (AOp.fr 5) rfl rfl ?_
      refine AQE.hole rfl rfl ?_
      refine AQE.ev rfl rfl rfl rfl ?_
      refine AQE.op rfl (AOp.lw 0) rfl rfl ?_
      refine AQE.ev rfl rfl rfl rfl ?_
      refine AQE.hole rfl rfl ?_
      refine AQE.hole rfl rfl ?_
      refine AQE.hole rfl rfl ?_
      refine AQE.op rfl (AOp.fr 5) rfl rfl ?_
      refine AQE.hole rfl rfl ?_
      refine AQE.nil ?_
      repeat' (first | refine AX.two (n := 4) 1 5 rfl ?_ ?_ | refine AX.two (n := 3) 1 6 rfl ?_ ?_ | refine AX.one (n := 3) 5 rfl ?_ | refine AX.one (n := 2) 6 rfl ?_ | refine AX.one (n := 2) 1 rfl ?_ | refine AX.one (n := 1) 7 rfl ?_ | refine AX.one (n := 0) 9 rfl ?_ | (refine AXS.det (i := 1) rfl rfl rfl (AOp.ll 1) ?_; dsimp only [sA, sB]) | (refine AXS.step (i := 5) rfl rfl rfl (AOp.call rfl rfl hc) ?_ (by rintro _ _ ⟨_, ⟨e, _⟩, _⟩; cases e); rintro _ _ ⟨_, ⟨e, g', rfl⟩, rfl⟩; injection e with e; subst e; dsimp only [sA, sB]) | (refine AXS.det (i := 6) rfl rfl rfl (AOp.lit (e := 25) (sz := 6) (by kernel_rfl) rfl rfl rfl (P_one rfl) (by decide)) ?_; dsimp only [sA, sB]) | (refine AXS.at (q := 7) rfl rfl ?_; refine AXO.append (i := 0) (xs := o.map GFml.av) (e := 25) (sz := 6) (bytes := 104) rfl rfl rfl rfl (by kernel_rfl) (by kernel_rfl) (P_map GFml.size_av) (P_one rfl) rfl (by simp only [lM]; simp; omega) (by simp only [lM]; simp; omega) rfl fun b' c' => ?_; dsimp only [sA, sB]) | (refine AXS.at (q := 9) rfl rfl ?_; refine AXO.sl 1 (fun _ => ?_); dsimp only [sA, sB]) | fail)
      all_goals
       refine AX.done [(0, .ref rn 0), (2, .map m8), (4, .at (.st [.int .i64 k, .int .i64 ar, .str nm, strs vars, strs args, .sl (kids.map GFml.av)])), (6, .ref r6 0), (7, .ref r7 0), (59, .sl (kids.map GFml.av)), (60, .int .i64 (kids.map GFml.av).length), (61, .int .i64 i)] rfl ?_
       refine AW.drop (ah' := [.tail b' ((o ++ [y]).map GFml.av).length c' 6, .box r7 (.st [.int .i64 k, .int .i64 ar, .str nm, strs W, strs args2, .slt ((o ++ [y]).map GFml.av) b' c']), TB t, .box rn (nmAV mt n2), .map mt (kvW bav (bmap tk2)) g', .map m8 (kvW AV.str B) gB, .box r6 zF] ++ X) (by rw [hm]; exact List.Sublist.cons_cons _ <| List.Sublist.cons_cons _ <| List.Sublist.cons_cons _ <| List.Sublist.cons_cons _ <| List.Sublist.cons_cons _ <| List.Sublist.cons_cons _ <| List.sublist_cons_self _ _) ?_
       repeat' (first | (refine AW.r 20 ?_; refine AL.d AOp.ad ?_; refine xN 1 ?_) | fail)
       refine AW.again_keep (kids.length - (i + 1)) [0, 2, 4, 6, 7, 59, 60, 61] (by omega) ⟨i + 1, o ++ [y], b', c', tk2, n2, g', hlt, rfl, rfl, rfl, ?_⟩
       refine ⟨by rw [he]; simp, by simp; omega, by omega, by omega⟩
     ·obtain ⟨he, hol, _, _⟩ := he
      rw [List.drop_eq_nil_of_le (by omega), apL] at he
      simp only [List.append_nil] at he
      rw [he]
      refine AW.weak_box 1 (.st [.int .i64 k, .int .i64 ar, .str nm, strs W, strs args2, .sl (o.map GFml.av)]) rfl (.st (.cons (.refl _) (.cons (.refl _) (.cons (.refl _) (.cons (.refl _) (.cons (.refl _) (.cons .slt .nil))))))) ?_
      repeat' (first | refine AW.re 17 1 ?_ | refine AW.jj (fun hb => ?_) (fun hb => ?_) | refine AW.go ?_ | fail)
      all_goals try (exfalso; simp only [dT, dF, lM] at *; omega)
      repeat' (first | (refine AW.r 21 ?_; refine AL.d (AOp.lw 1) ?_; refine AL.sl 6 ?_; refine AL.nil ?_) | fail)
      exact AW.retc (.cell 6 rfl rfl (by kernel_rfl) .nil) (.cons _ (.cons _ (.cons_cons _ (.cons_cons _ (.cons_cons _ (.cons _ (.cons _ (List.Sublist.refl _)))))))) ⟨rfl, gg, rfl⟩
theorem permPre {P : Program} {f : FuncId} {args : List AV} {ah ah' : AH} {Φ : AEnd → AH → Prop} (h : Tri P f args ah Φ) (p : ah'.Perm ah) : Tri P f args ah' Φ :=
 ⟨h.1, fun Fr w vs hst hrel => (h.2 Fr w vs (hst.perm p) (RelVs.mv (Mv.same w fun b o hs => hs.elim .inl fun h' => .inr ((reg_perm p).2 h')) _ _ hrel)).mono fun e w' he => he.perm fun b o => reg_perm p.symm⟩
mutual
theorem bdF_len : ∀ f : GFml, shsF f = true → (bdF f).length ≤ 24 * ndF f
 | ⟨k, ar, nm, vars, args, kids⟩, h => by
  rw [shsF, bA] at h
  have h1 := shaped_vars h.2
  have h2 := bdL_len kids h.1
  simp only at h1
  rw [bdF, ndF, lA]; omega
theorem bdL_len : ∀ l : List GFml, shsFs l = true → (bdL l).length ≤ 24 * ndFs l
 | [], h => by rw [bdL]; exact Nat.zero_le _
 | x :: l, h => by
  rw [shsFs, bA] at h
  have h1 := bdF_len x h.1
  have h2 := bdL_len l h.2
  rw [bdL, ndFs, lA]; omega
end
def none_ : Sb := fun _ => none
mutual
theorem ap_ok : ∀ (f : GFml) (σ : Sb) (tk : List ByteArray) (n T : Nat), f.Ok → tk.length + (bdF f).length ≤ T → n + (bdF f).length * (T + 1) ≤ 9000000000 → (∀ v w, σ v = some w → strOk w) → (apF f σ tk n).1.Ok
 | ⟨k, ar, nm, vars, args, kids⟩, σ, tk, n, T, ho, hT1, hT2, hσ => by
  obtain ⟨⟨h1, h2, h3, h4, h5⟩, h6, h7⟩ := ho
  rw [bdF, lA] at hT1 hT2
  rw [Nat.add_mul] at hT2
  obtain ⟨k1, k2, k3⟩ := frL_bd T vars.length tk n (by omega)
  have hnew : ∀ x ∈ (frL vars.length tk n).1, strOk x := by
   intro x hx
   obtain ⟨m, hm, rfl⟩ := k3 x hx
   exact wB_ok m (by omega)
  rw [apF]
  refine .mk ⟨h1, h2, h3, ⟨by simp only; rw [frL_len]; exact h4.1, hnew⟩, ⟨by simp only [lM]; exact h5.1, ?_⟩⟩ (by simp only; rw [ap_lenL]; exact h6) ?_
  ·intro x hx
   obtain ⟨y, hy, rfl⟩ := List.mem_map.1 hx
   rw [rnS]
   cases hs : σ y with
   | none => exact h5.2 y hy
   | some w => exact hσ y w hs
  ·exact ap_okL kids _ _ _ T h7 (by rw [lA, frL_len]; omega) (by omega) (up_ok vars _ σ hσ hnew)
theorem ap_okL : ∀ (l : List GFml) (σ : Sb) (tk : List ByteArray) (n T : Nat), (∀ x ∈ l, x.Ok) → tk.length + (bdL l).length ≤ T → n + (bdL l).length * (T + 1) ≤ 9000000000 → (∀ v w, σ v = some w → strOk w) → ∀ y ∈ (apL l σ tk n).1, y.Ok
 | [], σ, tk, n, T, ho, hT1, hT2, hσ, y, hy => by rw [apL] at hy; cases hy
 | x :: l, σ, tk, n, T, ho, hT1, hT2, hσ, y, hy => by
  rw [bdL, lA] at hT1 hT2
  rw [Nat.add_mul] at hT2
  have hb := ap_bd T x σ tk n (by omega)
  rw [apL] at hy
  rcases List.mem_cons.1 hy with rfl | hy
  ·exact ap_ok x σ tk n T (ho x (by simp)) (by omega) (by omega) hσ
  ·exact ap_okL l σ _ _ T (fun z hz => ho z (by simp [hz])) (by rw [ap_tk, lA]; omega) (by omega) hσ y hy
theorem up_ok : ∀ (vars r : List ByteArray) (σ : Sb), (∀ v w, σ v = some w → strOk w) → (∀ x ∈ r, strOk x) → ∀ v w, upV vars r σ v = some w → strOk w
 | [], r, σ, h, hr => by rw [upV]; exact h; all_goals intros; simp_all
 | x :: l, [], σ, h, hr => by rw [upV]; exact h; all_goals intros; simp_all
 | x :: l, y :: r, σ, h, hr => by
  rw [upV]
  refine up_ok l r _ (fun v w hv => ?_) (fun z hz => hr z (by simp [hz]))
  simp only [up1] at hv
  split at hv
  ·rw [← Option.some.inj hv]; exact hr y (by simp)
  ·exact h v w hv
end
theorem perm4 {α : Type} (m b r t : α) : [m, b, r, t].Perm [t, b, m, r] := by
 refine (List.Perm.cons _ (List.perm_append_comm (l₁ := [b, r]) (l₂ := [t]))).trans ?_
 refine (List.Perm.swap t m _).trans (.cons _ (.swap b m _))
end Go.Proofs.YtlpndgodkkndnaaGreatDoor
