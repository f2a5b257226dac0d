/- Contracts of the functions, part 2. -/
import Derived.Test.YtlpndgodkkndnaaGreatDoorA1
import Derived.Test.YtlpndgodkkndnaaGreatDoorA1
import Derived.Test.YtlpndgodkkndnaaGreatDoorS2
import Derived.Test.YtlpndgodkkndnaaGreatDoorS3
import Derived.Shelf.Strconv.Itoa3
import Derived.Test.YtlpndgodkkndnaaGreatDoorProg
namespace Go.Proofs.YtlpndgodkkndnaaGreatDoor
open Go.RowKit Go.SX
set_option maxRecDepth 100000
set_option maxHeartbeats 4000000
set_option linter.unusedVariables false
set_option linter.unusedSimpArgs false
def CkPost (b mb mf : Nat) (env : ByteArray → List Int) (r : CkS) (x : AEnd) (h : AH) : Prop := x = .ret (.tup []) ∧ ∃ A' gA', (∀ k, envA A' k = env k) ∧ h = ckH b mb mf r A' gA'
theorem chk_walk : ∀ (N : Nat) (f : GFml) (lv : Int) (A : List (ByteArray × Stk)) (gA : MG) (s : CkS) (b mb mf : Nat), ndF f ≤ N → f.Ok → 0 ≤ lv → lv ≤ 61 → s.bad = false → 0 ≤ s.n → s.n ≤ 4000 → (∀ k, ((envA A k).length : Int) ≤ lv) →
  Tri Tryz.prog 147 [.ref b 0, f.st, .int .i64 lv] (ckH b mb mf s A gA) (CkPost b mb mf (envA A) (chk f lv (envA A) s)) := by
 intro N
 induction N using Nat.strongRecOn with
 | _ N ih =>
  intro f lv A gA s b mb mf hN ho hlv0 hlv hbad hn0 hn1 hlen
  have hnd := ndF_eq f
  have hB := f_binds f
  have hS := f_shaped f ho
  obtain ⟨⟨_, _, _, q4, q5⟩, q6, q7⟩ := ho
  have l5 := q5.1
  obtain ⟨n, d, bad, F, gF⟩ := s
  simp only at hbad hn0 hn1
  subst hbad
  have hfin := chk_fin f.Kind f.Arity f.Name f.Vars f.Args f.Kids lv (envA A) ⟨n, d, false, F, gF⟩
  obtain ⟨k, ar, nm, vars, args, kids⟩ := f
  simp only at *
  generalize hR : chk ⟨k, ar, nm, vars, args, kids⟩ lv (envA A) ⟨n, d, false, F, gF⟩ = R at *
  rw [chk] at hR
  simp only at hR
  simp only [ckH, ckBox]
  refine Tri.enterD 162 Tryz.func147 rfl rfl rfl rfl fun Fr w0 => ?_
  repeat' (first | (refine AW.r 0 ?_; refine AL.box (v := .ref b 0) rfl rfl rfl fun rc => ?_; (refine AL.d (AOp.box_ro (v := .st [.int .i64 k, .int .i64 ar, .str nm, strs vars, strs args, .sl (kids.map GFml.av)]) rfl rfl) ?_) <;> refine AL.nil ?_) | (refine AW.r 1 ?_; refine AL.d (AOp.ll 0) ?_; refine AL.es 1 ?_; refine AL.d (AOp.fr 0) ?_; refine AL.d (AOp.ll 1) ?_; refine AL.d AOp.ad ?_; refine AL.es 1 ?_; refine AL.d (AOp.fr 0) ?_; refine AL.sl 1 ?_; refine AL.nil ?_) | (refine AW.dl 2 9 ?_; refine AQ.p rfl (AOp.ll 0) ?_; refine AQ.p rfl (AOp.ll 0) ?_; refine AQ.es 1 ?_; refine AQ.p rfl (AOp.fr 1) ?_; refine AQ.p rfl (AOp.ll 1) ?_; refine AQ.es 1 ?_; refine AQ.p rfl (AOp.max2 rfl rfl) ?_; refine AQ.es 1 ?_; refine AQ.p rfl (AOp.fr 1) ?_; refine AQ.nil ?_; refine AL.sl 1 ?_; refine AL.nil ?_) | refine AW.go ?_ | fail)
  refine AW.cut (fun af ah => ∃ v : Bool, af = [(2, .int .i64 lv), (3, .ref rc 0), (4, .at (.st [.int .i64 k, .int .i64 ar, .str nm, strs vars, strs args, .sl (kids.map GFml.av)])), (43, .bool v)] ∧ ah = .box rc (.ref b 0) :: ckH b mb mf ⟨n + 1, max d lv, false, F, gF⟩ A gA ∧ (v = true ↔ (4000 < n + 1 ∨ 60 < lv ∨ shapedP ⟨k, ar, nm, vars, args, kids⟩ = false))) ?_ ?_
  ·repeat' (first | (refine AW.r 3 ?_; refine AL.d (AOp.ll 0) ?_; refine AL.es 1 ?_; refine AL.d (AOp.fr 0) ?_; refine AL.d (AOp.ll 1) ?_; refine AL.es 2 ?_; ((refine AL.gx (fun hb => ?_) (fun hb => ?_) <;> refine AL.es 4 ?_)) <;> (first | refine AL.gs ?_ | (refine AL.gx (fun hb => ?_) (fun hb => ?_) <;> first | (refine AL.gd ?_; (refine AL.d AOp.la ?_)) | refine AL.gs ?_)) <;> (first | (refine AL.gd ?_; refine AL.d (AOp.call rfl rfl (hS.pure _)) ?_) | refine AL.gs ?_) <;> refine AL.es 2 ?_ <;> refine AL.nil ?_) | fail)
   all_goals refine AW.meet [2, 3, 4, 43] ⟨_, rfl, rfl, ?_⟩
   all_goals simp only [dT, dF] at *
   all_goals first
    | (simp; omega)
    | (rw [Bool.not_eq_true']; exact ⟨fun h => .inr (.inr h), fun h => by rcases h with h | h | h <;> first | omega | fail⟩)
  rintro af ah ⟨v, rfl, rfl, hv⟩
  cases v with
  | true =>
   repeat' (first | (refine AW.r 4 ?_; refine AL.d (AOp.ll 0) ?_; refine AL.es 1 ?_; refine AL.d (AOp.fr 4) ?_; refine AL.sl 1 ?_; refine AL.nil ?_) | (refine AW.r 5 ?_; refine AL.d (AOp.ll 0) ?_; refine AL.es 1 ?_; refine AL.d (AOp.fr 4) ?_; refine AL.d (AOp.ll 1) ?_; refine AL.nil ?_) | refine AW.jt ?_ | fail)
   refine AW.drop (List.sublist_cons_self _ _) ?_
   refine AW.retD0 .nil ⟨rfl, A, gA, fun _ => rfl, ?_⟩
   rw [if_pos (hv.1 rfl)] at hR
   rw [← hR]
   rfl
  | false =>
  have hv0 : ¬ (4000 < n + 1 ∨ 60 < lv ∨ shapedP ⟨k, ar, nm, vars, args, kids⟩ = false) := fun h => by have := hv.2 h; cases this
  rw [if_neg hv0] at hR
  have hsh : shapedP ⟨k, ar, nm, vars, args, kids⟩ = true := by
   cases h : shapedP ⟨k, ar, nm, vars, args, kids⟩ with
   | true => rfl
   | false => exact (hv0 (.inr (.inr h))).elim
  have hn2 : n + 1 ≤ 4000 := by omega
  have hlv2 : lv ≤ 60 := by omega
  clear hv hv0 hS
  repeat' (first | (refine AW.r 5 ?_; refine AL.d (AOp.ll 0) ?_; refine AL.es 1 ?_; refine AL.d (AOp.fr 4) ?_; refine AL.d (AOp.ll 1) ?_; refine AL.nil ?_) | refine AW.jf ?_ | fail)
  refine AW.skip (AW.seq ?_)
  generalize hE2 : (bif bindsB ⟨k, ar, nm, vars, args, kids⟩ then pushE (envA A) nm (bindsN ⟨k, ar, nm, vars, args, kids⟩) else envA A) = env2 at *
  refine AW.cut (fun af ah => ∃ s2 : CkS, af = [(2, .int .i64 lv), (3, .ref rc 0), (4, .at (.st [.int .i64 k, .int .i64 ar, .str nm, strs vars, strs args, .sl (kids.map GFml.av)]))] ∧ ah = .box rc (.ref b 0) :: ckH b mb mf s2 A gA ∧ 0 ≤ s2.n ∧ s2.n ≤ 4000 ∧ (s2.bad = false ∨ (kids = [] ∧ k = 0)) ∧ R = fin k nm kids (chkL kids (lv + 1) env2 s2)) ?_ ?_
  ·repeat' (first | (refine AW.r 6 ?_; refine AL.d AOp.fa ?_; refine AL.d AOp.la ?_; refine xN 1 ?_) | refine AW.jj (fun hb => ?_) (fun hb => ?_) | fail)
   ·have k0 : k = 0 := by simpa using hb
    obtain rfl : kids = [] := shaped_rel hsh k0
    rw [if_pos k0] at hR
    have hmeet : ∀ s2 : CkS, R = s2 → R = fin k nm [] (chkL [] (lv + 1) env2 s2) := fun s2 h => by
     rw [chkL, h, fin]
     cases hb2 : s2.bad with
     | true => rfl
     | false =>
      obtain ⟨u1, u2, u3, u4, u5⟩ := s2
      simp only at hb2
      subst hb2
      rw [k0]
      rfl
    refine AW.seq ?_
    refine AW.cut (fun af ah => af = [(2, .int .i64 lv), (3, .ref rc 0), (4, .at (.st [.int .i64 k, .int .i64 ar, .str nm, strs vars, strs args, .sl (([] : List GFml).map GFml.av)]))] ∧ ah = .box rc (.ref b 0) :: ckH b mb mf ⟨n + 1, max d lv, false, F, gF⟩ A gA ∧ envA A nm = []) ?_ ?_
    ·cases hL : lookA A nm with
     | none =>
      repeat' (first | (refine AW.dq 7 ?_; refine AQ.p rfl (AOp.ll 0) ?_; refine AQ.es 1 ?_; refine AQ.p rfl (AOp.fr 2) ?_; refine AQ.p rfl (AOp.ll 1) ?_; refine AQ.p rfl AOp.fa ?_; refine AQ.p rfl AOp.la ?_; refine AQ.p rfl (AOp.lookS_miss 2 52 (.slice none 0 0) (ok := false) hL rfl rfl rfl (by kernel_rfl) (by kernel_rfl)) ?_; refine AQ.es 1 ?_; refine AQ.nil ?_) | (refine xS 8 1 ?_; refine AL.d AOp.ln ?_; refine xN 1 ?_) | refine AW.jf ?_ | refine AW.go ?_ | fail)
      all_goals try (exfalso; simp only [dT, dF] at *; omega)
      exact AW.meet [2, 3, 4] ⟨rfl, rfl, by simp only [envA, hL]⟩
     | some t =>
      obtain ⟨tb, tl, tt⟩ := t
      obtain ⟨j, hj1, hj2⟩ := setA_hit hL
      have henv : envA A nm = tl := by simp only [envA, hL]
      have htl := hlen nm
      rw [henv] at htl
      repeat' (first | (refine AW.dq 7 ?_; refine AQ.p rfl (AOp.ll 0) ?_; refine AQ.es 1 ?_; refine AQ.p rfl (AOp.fr 2) ?_; refine AQ.p rfl (AOp.ll 1) ?_; refine AQ.p rfl AOp.fa ?_; refine AQ.p rfl AOp.la ?_; refine AQ.p rfl (AOp.lookS_hit 2 52 (g := Stk.av) (ok := false) hL rfl rfl rfl (by kernel_rfl)) ?_; refine AQ.es 1 ?_; refine AQ.nil ?_) | (refine xS 8 1 ?_; refine AL.d (AOp.len (v := Stk.av ⟨tb, tl, tt⟩) rfl rfl (by kernel_rfl)) ?_; refine xN 1 ?_) | refine AW.jj (fun hb => ?_) (fun hb => ?_) | refine AW.go ?_ | fail)
      ·have hpos : 0 < tl.length := by simpa using hb
       rw [henv] at hR
       obtain ⟨L, a, rfl⟩ : ∃ L a, tl = L ++ [a] := ⟨tl.dropLast, tl.getLast (by intro h; rw [h] at hpos; simp at hpos), (List.dropLast_concat_getLast _).symm⟩
       have hrow : ∀ x0 x1 x2 x3 : Own, (x0 :: x1 :: x2 :: x3 :: rowsA A)[j + 4]? = some (.row tb ((L ++ [a]).map iav ++ tt)) := fun x0 x1 x2 x3 => rowsA_get hj1
       have hcell : ((L ++ [a]).map iav ++ tt)[((((L ++ [a]).map iav).length : Int) - 1).toNat]? = some (iav a) := by
        have e : ((((L ++ [a]).map iav).length : Int) - 1).toNat = L.length := by simp
        rw [e, List.map_append, List.append_assoc, List.getElem?_append_right (by simp)]
        simp
       rw [List.getLast?_append, List.getLast?_singleton] at hR
       repeat' (first | (refine AW.dl 9 13 ?_; refine AQ.p rfl (AOp.ll 0) ?_; refine AQ.es 3 ?_; ((refine AQ.p rfl (AOp.sub rfl rfl (by simp only [lM]; omega)) ?_)) <;> refine AQ.p rfl (AOp.index_osl rfl rfl (by simp only [lM]; omega) (by simp only [lM]; omega) (by kernel_rfl)) ?_ <;> (refine AQ.p rfl (AOp.load_cell (j + 4) rfl (hrow _ _ _ _) hcell rfl (by kernel_rfl)) ?_) <;> (refine AQ.p rfl AOp.fa ?_) <;> (refine AQ.p rfl AOp.la ?_) <;> refine AQ.es 3 ?_ <;> (refine AQ.p rfl (AOp.fr 4) ?_) <;> refine AQ.nil ?_ <;> (refine AL.sl 1 ?_) <;> refine AL.nil ?_) | fail)
       refine AW.drop (List.sublist_cons_self _ _) ?_
       refine AW.retD0 .nil ⟨rfl, A, gA, fun _ => rfl, ?_⟩
       rw [← hR]
       simp only [lM]
       rfl
      ·have hnil : tl = [] := by
        have : ¬ 0 < tl.length := by simpa using hb
        exact List.eq_nil_of_length_eq_zero (by omega)
       exact AW.meet [2, 3, 4] ⟨rfl, rfl, by rw [henv, hnil]⟩
    rintro af ah ⟨rfl, rfl, henv⟩
    rw [henv] at hR
    simp only [List.getLast?_nil] at hR
    cases hF : lookA F nm with
    | none =>
     rw [hF] at hR
     repeat' (first | (refine AW.dq 10 ?_; refine AQ.p rfl (AOp.ll 0) ?_; refine AQ.es 1 ?_; refine AQ.p rfl (AOp.fr 3) ?_; refine AQ.p rfl (AOp.ll 1) ?_; refine AQ.p rfl AOp.fa ?_; refine AQ.p rfl AOp.la ?_; refine AQ.p rfl (AOp.lookS_miss 3 3 (.int .i64 0) (ok := true) hF rfl rfl rfl (by kernel_rfl) (by kernel_rfl)) ?_; refine AQ.es 5 ?_; refine AQ.nil ?_) | (refine xS 11 2 ?_; refine AL.es 1 ?_; refine AL.gs ?_; refine AL.gs ?_; refine xN 3 ?_) | (refine AW.dl 13 9 ?_; refine AQ.p rfl (AOp.ll 0) ?_; refine AQ.es 1 ?_; refine AQ.p rfl (AOp.fr 3) ?_; refine AQ.p rfl (AOp.ll 1) ?_; refine AQ.p rfl AOp.fa ?_; refine AQ.p rfl AOp.la ?_; refine AQ.p rfl AOp.fa ?_; refine AQ.p rfl AOp.la ?_; refine AQ.es 1 ?_; refine AQ.nil ?_; refine AL.setS 3 3 iav (args.length : Int) rfl rfl rfl (by simp only [aeval, get_cons, lM]; rfl) (by kernel_rfl) ?_ <;> refine AL.nil ?_) | refine AW.jf ?_ | fail)
     exact AW.meet [2, 3, 4] ⟨⟨n + 1, max d lv, false, setA F nm args.length, gsetA F gF nm⟩, rfl, rfl, by simp only; omega, hn2, .inl rfl, hmeet _ hR.symm⟩
    | some a =>
     rw [hF] at hR
     repeat' (first | (refine AW.dq 10 ?_; refine AQ.p rfl (AOp.ll 0) ?_; refine AQ.es 1 ?_; refine AQ.p rfl (AOp.fr 3) ?_; refine AQ.p rfl (AOp.ll 1) ?_; refine AQ.p rfl AOp.fa ?_; refine AQ.p rfl AOp.la ?_; refine AQ.p rfl (AOp.lookS_hit 3 3 (g := iav) (ok := true) hF rfl rfl rfl (by kernel_rfl)) ?_; refine AQ.es 5 ?_; refine AQ.nil ?_) | (refine xS 11 2 ?_; refine AL.es 1 ?_; ((refine AL.gd ?_; (refine AL.d AOp.fa ?_))) <;> ((refine AL.gd ?_; (refine AL.d AOp.la ?_))) <;> refine AL.es 3 ?_ <;> refine AL.nil ?_) | (refine AW.r 12 ?_; refine AL.d (AOp.ll 0) ?_; refine AL.es 1 ?_; refine AL.d (AOp.fr 4) ?_; refine AL.sl 1 ?_; refine AL.nil ?_) | (refine AW.dl 13 9 ?_; refine AQ.p rfl (AOp.ll 0) ?_; refine AQ.es 1 ?_; refine AQ.p rfl (AOp.fr 3) ?_; refine AQ.p rfl (AOp.ll 1) ?_; refine AQ.p rfl AOp.fa ?_; refine AQ.p rfl AOp.la ?_; refine AQ.p rfl AOp.fa ?_; refine AQ.p rfl AOp.la ?_; refine AQ.es 1 ?_; refine AQ.nil ?_; refine AL.setS 3 3 iav (args.length : Int) rfl rfl rfl (by simp only [aeval, get_cons, lM]; rfl) (by kernel_rfl) ?_ <;> refine AL.nil ?_) | refine AW.jj (fun hb => ?_) (fun hb => ?_) | fail)
     all_goals (simp only [lM] at hb; simp only [hb] at hR)
     ·exact AW.meet [2, 3, 4] ⟨⟨n + 1, max d lv, true, setA F nm args.length, gsetA F gF nm⟩, rfl, rfl, by simp only; omega, hn2, .inr ⟨rfl, k0⟩, hmeet _ hR.symm⟩
     ·exact AW.meet [2, 3, 4] ⟨⟨n + 1, max d lv, false, setA F nm args.length, gsetA F gF nm⟩, rfl, rfl, by simp only; omega, hn2, .inl rfl, hmeet _ hR.symm⟩
   ·have k0 : ¬ k = 0 := by simpa using hb
    rw [if_neg k0] at hR
    refine AW.skip ?_
    exact AW.meet [2, 3, 4] ⟨_, rfl, rfl, by simp only; omega, hn2, .inl rfl, hR.symm⟩
  rintro af ah ⟨s2, rfl, rfl, hs0, hs1, hsb, hRf⟩
  clear hR hfin
  unfold bindsS at hB
  repeat' (first | (refine AW.r 14 ?_; refine AL.d AOp.la ?_; refine AL.d (AOp.call rfl rfl (hB.pure _)) ?_; refine AL.es 4 ?_; refine AL.alloc_z (t := 9) (.str empB) (by kernel_rfl) rfl rfl fun r9 => ?_; refine AL.sl 0 ?_; refine xN 2 ?_) | fail)
  refine AW.prune [2, 3, 4, 9, 10, 11] ?_
  generalize hbn : bindsN ⟨k, ar, nm, vars, args, kids⟩ = bn at *
  cases hBb : bindsB ⟨k, ar, nm, vars, args, kids⟩ with
  | false =>
   rw [hBb, cond_false] at hE2
   refine AW.frame_eq (af' := [(2, .int .i64 lv), (3, .ref rc 0), (4, .at (.st [.int .i64 k, .int .i64 ar, .str nm, strs vars, strs args, .sl (kids.map GFml.av)])), (9, .ref r9 0), (10, .int .i64 bn), (11, .bool false)]) (ah' := .box r9 (.str empB) :: .box rc (.ref b 0) :: ckH b mb mf s2 A gA) rfl rfl ?_
   have hret : ∀ (R0 : Rg) (s3 : CkS) (A3 : List (ByteArray × Stk)) (g3 : MG), (∀ x, envA A3 x = env2 x) → R = s3 → ∀ ks af, AW (CofD Tryz.prog Tryz.f147 162 Fr R0 w0 (CkPost b mb mf (envA A) R)) [] (.c .ret :: ks) af (.box r9 (.str empB) :: .box rc (.ref b 0) :: ckH b mb mf s3 A3 g3) := by
    intro R0 s3 A3 g3 h1 h2 ks af
    refine AW.drop ((List.sublist_cons_self _ _).trans (List.sublist_cons_self _ _)) ?_
    exact AW.retD0 .nil ⟨rfl, A3, g3, fun x => by rw [h1, ← hE2], by rw [h2]⟩
   have hdone : ∀ (R0 : Rg) (s3 : CkS) (A3 : List (ByteArray × Stk)) (g3 : MG), (∀ x, envA A3 x = env2 x) → R = s3 → ∀ af, AW (CofD Tryz.prog Tryz.f147 162 Fr R0 w0 (CkPost b mb mf (envA A) R)) [] [] af (.box r9 (.str empB) :: .box rc (.ref b 0) :: ckH b mb mf s3 A3 g3) := by
    intro R0 s3 A3 g3 h1 h2 af
    refine AW.drop ((List.sublist_cons_self _ _).trans (List.sublist_cons_self _ _)) ?_
    exact AW.doneD0 .nil ⟨rfl, A3, g3, fun x => by rw [h1, ← hE2], by rw [h2]⟩
   have hA2 : ∀ x, envA A x = env2 x := fun x => by rw [hE2]
   have hlen2 : ∀ x, ((env2 x).length : Int) ≤ lv + 1 := fun x => by have := hlen x; rw [← hE2]; omega
   repeat' (first | refine AW.re 15 1 ?_ | refine AW.jf ?_ | fail)
   refine AW.skip ?_
   clear hBb hB
   refine AW.prune [2, 3, 4, 9] ?_
   repeat' (first | refine AW.re 18 4 ?_ | refine AW.go ?_ | fail)
   refine AW.prune [2, 3, 4, 9, 130, 131, 132] (AW.loop (fun mz af h => ∃ (i : Nat) (s3 : CkS) (A3 : List (ByteArray × Stk)) (g3 : MG), i ≤ kids.length ∧ mz = kids.length - i ∧ af = [(2, .int .i64 lv), (3, .ref rc 0), (4, .at (.st [.int .i64 k, .int .i64 ar, .str nm, strs vars, strs args, .sl (kids.map GFml.av)])), (9, .ref r9 0), (130, .sl (kids.map GFml.av)), (131, .int .i64 (kids.map GFml.av).length), (132, .int .i64 i)] ∧ h = .box r9 (.str empB) :: .box rc (.ref b 0) :: ckH b mb mf s3 A3 g3 ∧ (chkL kids (lv + 1) env2 s2 = chkL (kids.drop i) (lv + 1) env2 s3 ∧ (s3.bad = false ∨ (kids = [] ∧ k = 0)) ∧ 0 ≤ s3.n ∧ s3.n ≤ 4000 ∧ ∀ x, envA A3 x = env2 x)) kids.length ⟨0, s2, A, gA, Nat.zero_le _, rfl, rfl, rfl, ⟨rfl, hsb, hs0, hs1, hA2⟩⟩ ?_)
   rintro mz af h ⟨i, s3, A3, g3, hi, rfl, rfl, rfl, he⟩
   refine AW.seq ?_
   by_cases hlt : i < kids.length
   ·obtain ⟨he, hb3, g1, g2, hA3⟩ := he
    obtain ⟨x, hx⟩ := get_lt hlt
    have hx' : (kids.map GFml.av)[((i : Nat) : Int).toNat]? = some (x.st) := GFml.get hx
    have hxm := lG hx
    have hnx := ndFs_mem hxm
    have hb3' : s3.bad = false := hb3.resolve_right (fun h => by rw [h.1] at hlt; simp at hlt)
    have henv3 : envA A3 = env2 := funext hA3
    have hc := (ih (ndF x) (by omega) x (lv + 1) A3 g3 s3 b mb mf (Nat.le_refl _) (q7 x hxm) (by omega) (by omega) hb3' g1 g2 (by rw [henv3]; exact hlen2)).front [.box r9 (.str empB), .box rc (.ref b 0)]
    rw [henv3] at hc
    have hcn := chk_n x (lv + 1) env2 s3 hb3' g2
    rw [drop_cons hx, chkL] at he
    generalize chk x (lv + 1) env2 s3 = s4 at *
    repeat' (first | refine AW.re 19 1 ?_ | (refine AW.r 20 ?_; refine AL.d (iX hx') ?_; refine AL.d AOp.la ?_; refine AL.alloc_store (by kernel_rfl) rfl rfl rfl rfl ?_; refine AL.nil ?_) | (refine AW.r 21 ?_; refine AL.d (AOp.ll 1) ?_; refine AL.d AOp.la ?_; refine AL.es 1 ?_; refine AL.d AOp.ad ?_; (refine AL.callQ rfl rfl hc rfl ?_ ?_; rotate_left; rintro _ _ ⟨_, ⟨e, _⟩, _⟩; cases e; rintro _ _ ⟨_, ⟨e, A4, g4, hA4, rfl⟩, rfl⟩; injection e with e; subst e) <;> refine AL.nil ?_) | refine AW.jj (fun hb => ?_) (fun hb => ?_) | fail)
    all_goals try (exfalso; simp only [dT, dF, lM] at *; omega)
    refine AW.perm (b := .box r9 (.str empB) :: .box rc (.ref b 0) :: ckH b mb mf s4 A4 g4) (List.perm_append_comm (l₁ := ckH b mb mf s4 A4 g4) (l₂ := [_, _])) ?_
    repeat' (first | (refine AW.r 22 ?_; refine AL.d (AOp.ll 1) ?_; refine AL.es 1 ?_; refine AL.d (AOp.fr 4) ?_; refine AL.d (AOp.ll 2) ?_; refine AL.nil ?_) | refine AW.jj (fun hb => ?_) (fun hb => ?_) | refine AW.go ?_ | fail)
    ·rw [hb, cond_true] at he
     exact hret _ s4 A4 g4 hA4 (by rw [hRf, he, fin, hb, cond_true]) _ _
    ·rw [hb, cond_false] at he
     repeat' (first | (refine AW.r 23 ?_; refine AL.d AOp.ad ?_; refine xN 1 ?_) | fail)
     refine AW.again_keep (kids.length - (i + 1)) [2, 3, 4, 9, 130, 131, 132] (by omega) ⟨i + 1, s4, A4, g4, hlt, rfl, rfl, rfl, ?_⟩
     exact ⟨he, .inl hb, by omega, (hcn.2 hb).1, hA4⟩
   ·obtain ⟨he, hb3, g1, g2, hA3⟩ := he
    rw [List.drop_eq_nil_of_le (by omega), chkL] at he
    rw [he] at hRf
    repeat' (first | refine AW.re 19 1 ?_ | refine AW.jj (fun hb => ?_) (fun hb => ?_) | refine AW.go ?_ | fail)
    all_goals try (exfalso; simp only [dT, dF, lM] at *; omega)
    cases k8 : (k == 8) with
    | true =>
     have k80 : ¬ k = 0 := fun h => by rw [h] at k8; cases k8
     have hb3' : s3.bad = false := hb3.resolve_right (fun h => k80 h.2)
     have hsb' : s2.bad = false := hsb.resolve_right (fun h => k80 h.2)
     have hk1 := shaped_kid hsh (.inl (by simpa using k8))
     have hshs := ((chkL_n kids (lv + 1) env2 s2 hsb' hs1).2 (by rw [he]; exact hb3')).2
     obtain ⟨y, rfl⟩ : ∃ y, kids = [y] := by
      match kids, hk1 with
      | [y], _ => exact ⟨y, rfl⟩
     have hy : ([y].map GFml.av)[((0 : Int)).toNat]? = some y.st := by simp [GFml.av_eq]
     have hpos := f_positive nm _ y true (Nat.le_refl _) (q7 y (by simp)) (shsFs_mem hshs (by simp))
     have hf : R = { s3 with bad := !ps2 nm y true } := by rw [hRf, fin, hb3', cond_false, k8, psH, Bool.true_and]
     generalize ps2 nm y true = Y at *
     obtain rfl : k = 8 := by simpa using k8
     repeat' (first | (refine AW.dq 24 ?_; refine AQ.p rfl AOp.fa ?_; refine AQ.p rfl AOp.la ?_; refine AQ.es 2 ?_; refine AQ.gp rfl AOp.fa ?_; refine AQ.gp rfl AOp.la ?_; refine AQ.gp rfl (iX hy) ?_; refine AQ.gp rfl AOp.la ?_; refine AQ.gp rfl AOp.fa ?_; refine AQ.gp rfl AOp.la ?_; refine AQ.gp rfl (AOp.call rfl rfl (hpos.pure _)) ?_; refine AQ.es 2 ?_; refine AQ.nil ?_) | (refine AW.r 25 ?_; refine AL.d (AOp.ll 1) ?_; refine AL.es 1 ?_; refine AL.d (AOp.fr 4) ?_; refine AL.sl 2 ?_; refine AL.nil ?_) | refine AW.jj (fun hb => ?_) (fun hb => ?_) | refine AW.go ?_ | fail)
     ·exact hdone _ { s3 with bad := true } A3 g3 hA3 (by rw [hf, hb]) _
     ·refine AW.frame_eq rfl (show _ = .box r9 (.str empB) :: .box rc (.ref b 0) :: ckH b mb mf { s3 with bad := false } A3 g3 from by rw [← hb3']) ?_
      exact hdone _ { s3 with bad := false } A3 g3 hA3 (by rw [hf, hb]) _
    | false =>
     have hf : R = s3 := by
      rw [hRf, fin, k8, Bool.false_and]
      cases hq : s3.bad with
      | true => rfl
      | false => obtain ⟨v1, v2, v3, v4, v5⟩ := s3; simp only at hq; subst hq; rfl
     repeat' (first | (refine AW.dq 24 ?_; refine AQ.p rfl AOp.fa ?_; refine AQ.p rfl AOp.la ?_; refine AQ.es 2 ?_; ((refine AQ.x (fun hb => ?_) (fun hb => ?_) <;> first | refine AQ.gp rfl AOp.fa ?_ | refine AQ.k ?_)) <;> (first | refine AQ.gp rfl AOp.la ?_ | refine AQ.k ?_) <;> (first | (exfalso; simp only [dT, dF, lM, bne_iff_ne, ne_eq, bne_eq_false_iff_eq, beq_iff_eq, beq_eq_false_iff_ne] at *; omega) | refine AQ.k ?_) <;> (refine AQ.k ?_) <;> (refine AQ.k ?_) <;> (refine AQ.k ?_) <;> (refine AQ.k ?_) <;> refine AQ.es 2 ?_ <;> refine AQ.nil ?_) | refine AW.jf ?_ | refine AW.go ?_ | fail)
     all_goals try (exfalso; rw [k8] at hb; exact Bool.noConfusion hb)
     exact hdone _ s3 A3 g3 hA3 hf _
  | true =>
   rw [hBb, cond_true] at hE2
   refine AW.frame_eq (af' := [(2, .int .i64 lv), (3, .ref rc 0), (4, .at (.st [.int .i64 k, .int .i64 ar, .str nm, strs vars, strs args, .sl (kids.map GFml.av)])), (9, .ref r9 0), (10, .int .i64 bn), (11, .bool true)]) (ah' := .box r9 (.str nm) :: .box rc (.ref b 0) :: ckH b mb mf s2 A gA) rfl rfl ?_
   have hnmL := hlen nm
   repeat' (first | refine AW.re 15 1 ?_ | refine AW.jt ?_ | fail)
   refine AW.seq ?_
   refine AW.cut (fun af ah => ∃ (A2 : List (ByteArray × Stk)) (gA2 : MG), af = [(2, .int .i64 lv), (3, .ref rc 0), (4, .at (.st [.int .i64 k, .int .i64 ar, .str nm, strs vars, strs args, .sl (kids.map GFml.av)])), (9, .ref r9 0)] ∧ ah = .box r9 (.str nm) :: .box rc (.ref b 0) :: ckH b mb mf s2 A2 gA2 ∧ ∀ x, envA A2 x = env2 x) ?_ ?_
   ·cases hL : lookA A nm with
    | none =>
     refine AW.explore [false, false, false, true] [13, 14] rfl (by kernel_rfl) (by kernel_rfl) (by kernel_rfl) (by kernel_rfl) ?_
     repeat' (first | refine AQE.hole rfl rfl ?_ | refine AQE.ev rfl rfl rfl rfl ?_ | refine AQE.op rfl (AOp.fr 2) rfl rfl ?_ | refine AQE.op rfl (AOp.ll 0) rfl rfl ?_ | refine AQE.op rfl (AOp.ll 1) rfl rfl ?_ | refine AQE.op rfl (AOp.ll 2) rfl rfl ?_ | refine AQE.early rfl rfl (AOp.lookS_nil 0 52 (.slice none 0 0) hL rfl rfl rfl (by kernel_rfl) (by kernel_rfl) rfl) rfl rfl ?_ | refine AQE.op rfl (AOp.lit (e := 3) (sz := 1) (by kernel_rfl) rfl rfl rfl (P_one rfl) (by decide)) rfl rfl ?_ | refine AQE.nil ?_ | fail)
     refine AX.one (n := 1) 13 rfl ?_
     refine AXS.step (i := 13) rfl rfl rfl (AOp.append_i0 (v := iav bn) (e := 3) (bytes := 8) (c0 := .int .i64 0) rfl rfl rfl (by kernel_rfl) (by kernel_rfl) (by omega)) ?_ (by rintro _ _ ⟨_, _, e, _⟩; cases e)
     rintro _ _ ⟨b', tl', e, rfl⟩
     injection e with e
     subst e
     dsimp only [sA, sB]
     refine AX.one (n := 0) 14 rfl ?_
     refine AXS.step (i := 14) rfl rfl rfl (AOp.mapUpdate (i := 1) (kd := .string) (e := 52) (k := .str nm) (v := Stk.av ⟨b', [bn], tl'⟩) rfl rfl rfl rfl (by kernel_rfl) rfl (keysOK_kvW _ _)) ?_ (by rintro _ _ ⟨⟨_, e⟩, _⟩; cases e)
     rintro _ _ ⟨⟨_, e⟩, rfl⟩
     dsimp only [sA, sB]
     refine AX.done [(2, .int .i64 lv), (3, .ref rc 0), (4, .at (.st [.int .i64 k, .int .i64 ar, .str nm, strs vars, strs args, .sl (kids.map GFml.av)])), (9, .ref r9 0)] rfl ?_
     clear e
     rw [mset_kvW, gset_kvW]
     have hrw : rowsA (setA A nm ⟨b', [bn], tl'⟩) = rowsA A ++ [Own.row b' ([iav bn] ++ tl')] := by rw [setA_miss hL]; simp [rowsA, Stk.row]
     refine AW.perm (b := .box r9 (.str nm) :: .box rc (.ref b 0) :: ckH b mb mf s2 (setA A nm ⟨b', [bn], tl'⟩) (gsetA A gA nm)) ?_ (AW.meet [2, 3, 4, 9] ⟨_, _, rfl, rfl, fun x => ?_⟩)
     ·unfold ckH
      rw [hrw]
      exact ((List.perm_append_singleton _ _).symm).trans (List.Perm.append_right _ (List.perm_middle (l₁ := [_, _, _])).symm)
     ·rw [← hE2]
      simp only [envA, look_setA, pushE, hL]
      by_cases e : x = nm
      ·subst e; simp [hL]
      ·simp [e]
    | some t =>
     obtain ⟨tb, tl, tt⟩ := t
     obtain ⟨j, hj1, hj2⟩ := setA_hit hL
     have henv : envA A nm = tl := by simp only [envA, hL]
     rw [henv] at hnmL
     have hrj := rowsA_get hj1
     refine AW.perm (b := .box r9 (.str nm) :: .box rc (.ref b 0) :: .box b (ckBox s2 mb mf) :: .map mb (kvW Stk.av A) gA :: .row tb (tl.map iav ++ tt) :: .map mf (kvW iav s2.F) s2.gF :: (rowsA A).eraseIdx j) ?_ ?_
     ·exact (((((perm_erase hrj).cons _).trans (.swap _ _ _)).cons _).cons _ |>.cons _).cons _
     refine AW.explore [false, false, false, true, true] [13, 14] rfl (by kernel_rfl) (by kernel_rfl) (by kernel_rfl) (by kernel_rfl) ?_
     repeat' (first | refine AQE.hole rfl rfl ?_ | refine AQE.ev rfl rfl rfl rfl ?_ | refine AQE.op rfl (AOp.fr 2) rfl rfl ?_ | refine AQE.op rfl (AOp.ll 0) rfl rfl ?_ | refine AQE.op rfl (AOp.ll 1) rfl rfl ?_ | refine AQE.op rfl (AOp.ll 2) rfl rfl ?_ | refine AQE.early rfl rfl (AOp.lookS_hit 0 52 (g := Stk.av) (ok := false) hL rfl rfl rfl (by kernel_rfl)) rfl rfl ?_ | refine AQE.op rfl (AOp.lit (e := 3) (sz := 1) (by kernel_rfl) rfl rfl rfl (P_one rfl) (by decide)) rfl rfl ?_ | refine AQE.nil ?_ | fail)
     refine AX.one (n := 1) 13 rfl ?_
     refine AXS.step (i := 13) rfl rfl rfl (AOp.append_i (i := 1) (us := tl.map iav) (tl := tt) (v := iav bn) (e := 3) (bytes := 8) (c0 := .int .i64 0) rfl rfl rfl rfl rfl (by kernel_rfl) (by kernel_rfl) (by simp only [lM]; omega) (by simp only [lM]; omega)) ?_ (by rintro _ _ ⟨_, _, e, _⟩; cases e)
     rintro _ _ ⟨b', tl', e, rfl⟩
     injection e with e
     subst e
     dsimp only [sA, sB]
     have hav : AV.osl b' (tl.map iav ++ [iav bn]).length ((tl.map iav ++ [iav bn]).length + tl'.length) = Stk.av ⟨b', tl ++ [bn], tl'⟩ := by simp [Stk.av]
     rw [hav]
     refine AX.one (n := 0) 14 rfl ?_
     refine AXS.step (i := 14) rfl rfl rfl (AOp.mapUpdate (i := 0) (kd := .string) (e := 52) (k := .str nm) (v := Stk.av ⟨b', tl ++ [bn], tl'⟩) rfl rfl rfl rfl (by kernel_rfl) rfl (keysOK_kvW _ _)) ?_ (by rintro _ _ ⟨⟨_, e⟩, _⟩; cases e)
     rintro _ _ ⟨⟨_, e⟩, rfl⟩
     dsimp only [sA, sB]
     refine AX.done [(2, .int .i64 lv), (3, .ref rc 0), (4, .at (.st [.int .i64 k, .int .i64 ar, .str nm, strs vars, strs args, .sl (kids.map GFml.av)])), (9, .ref r9 0)] rfl ?_
     clear e
     rw [mset_kvW, gset_kvW]
     have hrw : rowsA (setA A nm ⟨b', tl ++ [bn], tl'⟩) = (rowsA A).set j (Own.row b' (tl.map iav ++ [iav bn] ++ tl')) := by rw [hj2, rowsA_set]; simp [Stk.row]
     refine AW.perm (b := .box r9 (.str nm) :: .box rc (.ref b 0) :: ckH b mb mf s2 (setA A nm ⟨b', tl ++ [bn], tl'⟩) (gsetA A gA nm)) ?_ (AW.meet [2, 3, 4, 9] ⟨_, _, rfl, rfl, fun x => ?_⟩)
     ·unfold ckH
      rw [hrw]
      have hp := perm_set (Own.row b' (tl.map iav ++ [iav bn] ++ tl')) hrj
      exact perm7 hp
     ·rw [← hE2]
      simp only [envA, look_setA, pushE, hL]
      by_cases e : x = nm
      ·subst e; simp [hL]
      ·simp [e]
   rintro af ah ⟨A2, gA2, rfl, rfl, hA2⟩
   repeat' (first | (refine xS 17 1 ?_; refine AL.defer rfl rfl rfl ?_; refine AL.nil ?_) | fail)
   have hret0 : ∀ (s3 : CkS) (A3 : List (ByteArray × Stk)) (g3 : MG), (∀ x, envA A3 x = env2 x) → R = s3 → TriD Tryz.prog 171 [.ref rc 0, .ref r9 0] (.box r9 (.str nm) :: .box rc (.ref b 0) :: ckH b mb mf s3 A3 g3) .returning (fun u' h => settle u' = .returning ∧ ∃ h', h'.Sublist h ∧ CkPost b mb mf (envA A) R (.ret (.tup [])) h') := by
    intro s3 A3 g3 h1 h2
    have h3 := h1 nm
    rw [← hE2] at h3
    simp only [pushE, if_true] at h3
    cases hL : lookA A3 nm with
    | none => simp only [envA, hL] at h3; simp at h3
    | some t =>
     simp only [envA, hL] at h3
     refine (walk_defer b mb mf rc r9 s3 A3 g3 nm t hL (envA A nm) bn h3 (by omega)).mono ?_
     rintro u' h ⟨rfl, A', h4, rfl⟩
     refine ⟨rfl, _, (List.sublist_cons_self _ _).trans (List.sublist_cons_self _ _), rfl, A', g3, fun x => ?_, by rw [h2]⟩
     rw [h4, h1, ← hE2]
     simp only [pushE]
     by_cases e : x = nm
     ·rw [if_pos e, e]
     ·rw [if_neg e, if_neg e]
   have hret : ∀ (R0 : Rg) (s3 : CkS) (A3 : List (ByteArray × Stk)) (g3 : MG), (∀ x, envA A3 x = env2 x) → R = s3 → ∀ ks af, AW (CofD Tryz.prog Tryz.f147 162 Fr R0 w0 (CkPost b mb mf (envA A) R)) [{ target := .fn (.func 171) #[.pointer (some ⟨rc, 0, none⟩), .pointer (some ⟨r9, 0, none⟩)], args := #[] }] (.c .ret :: ks) af (.box r9 (.str nm) :: .box rc (.ref b 0) :: ckH b mb mf s3 A3 g3) :=
    fun R0 s3 A3 g3 h1 h2 ks af => AW.retD1n rfl rfl (hret0 s3 A3 g3 h1 h2)
   have hdone : ∀ (R0 : Rg) (s3 : CkS) (A3 : List (ByteArray × Stk)) (g3 : MG), (∀ x, envA A3 x = env2 x) → R = s3 → ∀ af, AW (CofD Tryz.prog Tryz.f147 162 Fr R0 w0 (CkPost b mb mf (envA A) R)) [{ target := .fn (.func 171) #[.pointer (some ⟨rc, 0, none⟩), .pointer (some ⟨r9, 0, none⟩)], args := #[] }] [] af (.box r9 (.str nm) :: .box rc (.ref b 0) :: ckH b mb mf s3 A3 g3) :=
    fun R0 s3 A3 g3 h1 h2 af => AW.doneD1n rfl rfl (hret0 s3 A3 g3 h1 h2)
   have hlen2 : ∀ x, ((env2 x).length : Int) ≤ lv + 1 := fun x => by
    have := hlen x
    rw [← hE2]
    simp only [pushE]
    split
    ·simp only [lA, List.length_singleton]; omega
    ·omega
   clear hret0 hBb hB
   repeat' (first | refine AW.re 18 4 ?_ | refine AW.go ?_ | fail)
   refine AW.prune [2, 3, 4, 9, 130, 131, 132] (AW.loop (fun mz af h => ∃ (i : Nat) (s3 : CkS) (A3 : List (ByteArray × Stk)) (g3 : MG), i ≤ kids.length ∧ mz = kids.length - i ∧ af = [(2, .int .i64 lv), (3, .ref rc 0), (4, .at (.st [.int .i64 k, .int .i64 ar, .str nm, strs vars, strs args, .sl (kids.map GFml.av)])), (9, .ref r9 0), (130, .sl (kids.map GFml.av)), (131, .int .i64 (kids.map GFml.av).length), (132, .int .i64 i)] ∧ h = .box r9 (.str nm) :: .box rc (.ref b 0) :: ckH b mb mf s3 A3 g3 ∧ (chkL kids (lv + 1) env2 s2 = chkL (kids.drop i) (lv + 1) env2 s3 ∧ (s3.bad = false ∨ (kids = [] ∧ k = 0)) ∧ 0 ≤ s3.n ∧ s3.n ≤ 4000 ∧ ∀ x, envA A3 x = env2 x)) kids.length ⟨0, s2, A2, gA2, Nat.zero_le _, rfl, rfl, rfl, ⟨rfl, hsb, hs0, hs1, hA2⟩⟩ ?_)
   rintro mz af h ⟨i, s3, A3, g3, hi, rfl, rfl, rfl, he⟩
   refine AW.seq ?_
   by_cases hlt : i < kids.length
   ·obtain ⟨he, hb3, g1, g2, hA3⟩ := he
    obtain ⟨x, hx⟩ := get_lt hlt
    have hx' : (kids.map GFml.av)[((i : Nat) : Int).toNat]? = some (x.st) := GFml.get hx
    have hxm := lG hx
    have hnx := ndFs_mem hxm
    have hb3' : s3.bad = false := hb3.resolve_right (fun h => by rw [h.1] at hlt; simp at hlt)
    have henv3 : envA A3 = env2 := funext hA3
    have hc := (ih (ndF x) (by omega) x (lv + 1) A3 g3 s3 b mb mf (Nat.le_refl _) (q7 x hxm) (by omega) (by omega) hb3' g1 g2 (by rw [henv3]; exact hlen2)).front [.box r9 (.str nm), .box rc (.ref b 0)]
    rw [henv3] at hc
    have hcn := chk_n x (lv + 1) env2 s3 hb3' g2
    rw [drop_cons hx, chkL] at he
    generalize chk x (lv + 1) env2 s3 = s4 at *
    repeat' (first | refine AW.re 19 1 ?_ | (refine AW.r 20 ?_; refine AL.d (iX hx') ?_; refine AL.d AOp.la ?_; refine AL.alloc_store (by kernel_rfl) rfl rfl rfl rfl ?_; refine AL.nil ?_) | (refine AW.r 21 ?_; refine AL.d (AOp.ll 1) ?_; refine AL.d AOp.la ?_; refine AL.es 1 ?_; refine AL.d AOp.ad ?_; (refine AL.callQ rfl rfl hc rfl ?_ ?_; rotate_left; rintro _ _ ⟨_, ⟨e, _⟩, _⟩; cases e; rintro _ _ ⟨_, ⟨e, A4, g4, hA4, rfl⟩, rfl⟩; injection e with e; subst e) <;> refine AL.nil ?_) | refine AW.jj (fun hb => ?_) (fun hb => ?_) | fail)
    all_goals try (exfalso; simp only [dT, dF, lM] at *; omega)
    refine AW.perm (b := .box r9 (.str nm) :: .box rc (.ref b 0) :: ckH b mb mf s4 A4 g4) (List.perm_append_comm (l₁ := ckH b mb mf s4 A4 g4) (l₂ := [_, _])) ?_
    repeat' (first | (refine AW.r 22 ?_; refine AL.d (AOp.ll 1) ?_; refine AL.es 1 ?_; refine AL.d (AOp.fr 4) ?_; refine AL.d (AOp.ll 2) ?_; refine AL.nil ?_) | refine AW.jj (fun hb => ?_) (fun hb => ?_) | refine AW.go ?_ | fail)
    ·rw [hb, cond_true] at he
     exact hret _ s4 A4 g4 hA4 (by rw [hRf, he, fin, hb, cond_true]) _ _
    ·rw [hb, cond_false] at he
     repeat' (first | (refine AW.r 23 ?_; refine AL.d AOp.ad ?_; refine xN 1 ?_) | fail)
     refine AW.again_keep (kids.length - (i + 1)) [2, 3, 4, 9, 130, 131, 132] (by omega) ⟨i + 1, s4, A4, g4, hlt, rfl, rfl, rfl, ?_⟩
     exact ⟨he, .inl hb, by omega, (hcn.2 hb).1, hA4⟩
   ·obtain ⟨he, hb3, g1, g2, hA3⟩ := he
    rw [List.drop_eq_nil_of_le (by omega), chkL] at he
    rw [he] at hRf
    repeat' (first | refine AW.re 19 1 ?_ | refine AW.jj (fun hb => ?_) (fun hb => ?_) | refine AW.go ?_ | fail)
    all_goals try (exfalso; simp only [dT, dF, lM] at *; omega)
    cases k8 : (k == 8) with
    | true =>
     have k80 : ¬ k = 0 := fun h => by rw [h] at k8; cases k8
     have hb3' : s3.bad = false := hb3.resolve_right (fun h => k80 h.2)
     have hsb' : s2.bad = false := hsb.resolve_right (fun h => k80 h.2)
     have hk1 := shaped_kid hsh (.inl (by simpa using k8))
     have hshs := ((chkL_n kids (lv + 1) env2 s2 hsb' hs1).2 (by rw [he]; exact hb3')).2
     obtain ⟨y, rfl⟩ : ∃ y, kids = [y] := by
      match kids, hk1 with
      | [y], _ => exact ⟨y, rfl⟩
     have hy : ([y].map GFml.av)[((0 : Int)).toNat]? = some y.st := by simp [GFml.av_eq]
     have hpos := f_positive nm _ y true (Nat.le_refl _) (q7 y (by simp)) (shsFs_mem hshs (by simp))
     have hf : R = { s3 with bad := !ps2 nm y true } := by rw [hRf, fin, hb3', cond_false, k8, psH, Bool.true_and]
     generalize ps2 nm y true = Y at *
     obtain rfl : k = 8 := by simpa using k8
     repeat' (first | (refine AW.dq 24 ?_; refine AQ.p rfl AOp.fa ?_; refine AQ.p rfl AOp.la ?_; refine AQ.es 2 ?_; refine AQ.gp rfl AOp.fa ?_; refine AQ.gp rfl AOp.la ?_; refine AQ.gp rfl (iX hy) ?_; refine AQ.gp rfl AOp.la ?_; refine AQ.gp rfl AOp.fa ?_; refine AQ.gp rfl AOp.la ?_; refine AQ.gp rfl (AOp.call rfl rfl (hpos.pure _)) ?_; refine AQ.es 2 ?_; refine AQ.nil ?_) | (refine AW.r 25 ?_; refine AL.d (AOp.ll 1) ?_; refine AL.es 1 ?_; refine AL.d (AOp.fr 4) ?_; refine AL.sl 2 ?_; refine AL.nil ?_) | refine AW.jj (fun hb => ?_) (fun hb => ?_) | refine AW.go ?_ | fail)
     ·exact hdone _ { s3 with bad := true } A3 g3 hA3 (by rw [hf, hb]) _
     ·refine AW.frame_eq rfl (show _ = .box r9 (.str nm) :: .box rc (.ref b 0) :: ckH b mb mf { s3 with bad := false } A3 g3 from by rw [← hb3']) ?_
      exact hdone _ { s3 with bad := false } A3 g3 hA3 (by rw [hf, hb]) _
    | false =>
     have hf : R = s3 := by
      rw [hRf, fin, k8, Bool.false_and]
      cases hq : s3.bad with
      | true => rfl
      | false => obtain ⟨v1, v2, v3, v4, v5⟩ := s3; simp only at hq; subst hq; rfl
     repeat' (first | (refine AW.dq 24 ?_; refine AQ.p rfl AOp.fa ?_; refine AQ.p rfl AOp.la ?_; refine AQ.es 2 ?_; ((refine AQ.x (fun hb => ?_) (fun hb => ?_) <;> first | refine AQ.gp rfl AOp.fa ?_ | refine AQ.k ?_)) <;> (first | refine AQ.gp rfl AOp.la ?_ | refine AQ.k ?_) <;> (first | (exfalso; simp only [dT, dF, lM, bne_iff_ne, ne_eq, bne_eq_false_iff_eq, beq_iff_eq, beq_eq_false_iff_ne] at *; omega) | refine AQ.k ?_) <;> (refine AQ.k ?_) <;> (refine AQ.k ?_) <;> (refine AQ.k ?_) <;> (refine AQ.k ?_) <;> refine AQ.es 2 ?_ <;> refine AQ.nil ?_) | refine AW.jf ?_ | refine AW.go ?_ | fail)
     all_goals try (exfalso; rw [k8] at hb; exact Bool.noConfusion hb)
     exact hdone _ s3 A3 g3 hA3 hf _
theorem f_checked (f : GFml) (ho : f.Ok) : Tri Tryz.prog 96 [f.st] [] (fun x h => ∃ b mb mf A gA, x = .ret (.ref b 0) ∧ h = ckH b mb mf (chk f 1 (fun _ => []) chk0) A gA) := by
 have hw := fun b mb mf => chk_walk _ f 1 [] ⟨[], 0⟩ chk0 b mb mf (Nat.le_refl _) ho (by omega) (by omega) rfl (by decide) (by decide) (fun k => by simp [envA, lookA])
 have he : envA [] = fun _ => [] := by funext k; rfl
 rw [he] at hw
 generalize chk f 1 (fun _ => []) chk0 = R at *
 obtain ⟨k, ar, nm, vars, args, kids⟩ := f
 refine Tri.enter 12 Tryz.func96 rfl rfl rfl rfl fun Fr w0 => ?_
 repeat' (first | (refine AW.r 0 ?_; (refine AL.d (AOp.box_ro (v := .st [.int .i64 k, .int .i64 ar, .str nm, strs vars, strs args, .sl (kids.map GFml.av)]) rfl rfl) ?_) <;> refine AL.es 1 ?_ <;> refine AL.nil ?_) | refine AW.go ?_ | fail)
 repeat' (first | (refine AW.r 1 ?_; refine AL.makeMap rfl fun bm => ?_; refine AL.makeMap rfl fun bm => ?_; refine AL.d (AOp.build (pl := [(0, 1), (1, 1), (2, 1), (3, 1), (4, 1)]) (z := .st [.int .i64 0, .int .i64 0, .val (.map none), .val (.map none), .bool false]) (by kernel_rfl) rfl rfl rfl) ?_ <;> refine AL.box rfl rfl rfl fun b => ?_ <;> refine AL.es 1 ?_ <;> refine AL.nil ?_) | refine AW.go ?_ | fail)
 rename_i mb
 refine AW.perm (b := ckH b mb bm chk0 [] ⟨[], 0⟩) ((List.Perm.swap _ _ _).cons _) ?_
 have hw1 := hw b mb bm
 repeat' (first | (refine xS 2 2 ?_; (refine AL.callQ rfl rfl hw1 rfl ?_ ?_; rotate_left; rintro _ _ ⟨e, _⟩; cases e; rintro _ _ ⟨e, A4, g4, hA4, rfl⟩; injection e with e; subst e) <;> refine AL.nil ?_) | refine AW.go ?_ | fail)
 repeat' (first | refine AW.re 3 2 ?_ | fail)
 exact AW.retv rfl ⟨_, _, _, _, _, rfl, rfl⟩
theorem f_Valid (f : GFml) (ho : f.Ok) : Tri Tryz.prog 50 [f.st] [] (D (.bool (validF f)) []) := by
 have hc := f_checked f ho
 have hv := chk_valid f
 generalize chk f 1 (fun _ => []) chk0 = R at *
 generalize validF f = V at *
 obtain ⟨k, ar, nm, vars, args, kids⟩ := f
 refine Tri.enter 9 Tryz.func50 rfl rfl rfl rfl fun Fr w0 => ?_
 repeat' (first | (refine AW.r 0 ?_; (refine AL.d (AOp.box_ro (v := .st [.int .i64 k, .int .i64 ar, .str nm, strs vars, strs args, .sl (kids.map GFml.av)]) rfl rfl) ?_) <;> refine AL.es 1 ?_ <;> refine AL.nil ?_) | refine AW.go ?_ | fail)
 repeat' (first | (refine AW.r 1 ?_; refine AL.d AOp.la ?_; (refine AL.callQ rfl rfl hc rfl ?_ ?_; rotate_left; rintro _ _ ⟨_, _, _, _, _, e, _⟩; cases e; rintro _ _ ⟨b, mb, mf, A, g, e, rfl⟩; injection e with e; subst e) <;> refine AL.es 1 ?_ <;> (refine AL.d (AOp.fr 4) ?_) <;> (refine AL.d (AOp.ll 0) ?_) <;> refine AL.es 2 ?_ <;> refine AL.nil ?_) | fail)
 exact AW.ret_drop rfl (List.nil_sublist _) ⟨by rw [hv, Bool.not_not], rfl⟩
theorem Clone_str (xs : List ByteArray) (hl : xs.length ≤ 8796093021952) : Tri Tryz.prog 148 [strs xs] [] (D (strs xs) []) := by
 refine Tri.enter 8 Tryz.func148 rfl rfl rfl rfl fun Fr w0 => ?_
 repeat' (first | refine AW.re 0 1 ?_ | refine AW.go ?_ | fail)
 repeat' (first | (refine xS 1 1 ?_; refine AL.slice_nil (xs := xs.map AV.str) rfl (by kernel_rfl) rfl fun B hB => ?_; refine AL.nil ?_) | refine AW.jj (fun hb => ?_) (fun hb => ?_) | refine AW.go ?_ | fail)
 ·have hx : xs = [] := by
   cases xs with
   | nil => rfl
   | cons y l => have h := hB (by simp); rw [h] at hb; cases hb
  subst hx
  repeat' (first | refine AW.re 2 1 ?_ | fail)
  exact AW.retv rfl ⟨rfl, rfl⟩
 ·repeat' (first | (refine AW.r 3 ?_; refine AL.lit_own (e := 9) (sz := 1) (by kernel_rfl) rfl rfl rfl P_nil (by decide) rfl fun b0 => ?_; refine AL.es 1 ?_; refine AL.append (i := 0) (e := 9) (sz := 1) (bytes := 16) rfl rfl rfl rfl (by kernel_rfl) (by kernel_rfl) (by repeat' (exact P_nil)) (by repeat' (exact P_map fun _ => rfl)) (ok_all (by repeat' (exact P_map fun _ => rfl))) (by (try simp only [lA, lM, List.length_take, List.length_drop, List.length_cons, List.length_nil, List.length_replicate]); omega) (by (try simp only [lA, lM, List.length_take, List.length_drop, List.length_cons, List.length_nil, List.length_replicate]); omega) rfl fun b' c' => ?_ <;> refine AL.es 1 ?_ <;> refine AL.nil ?_) | fail)
  refine AW.as_sl 2 rfl ?_
  exact AW.ret_drop rfl (List.nil_sublist _) ⟨rfl, rfl⟩
theorem n_with (f : GFml) (ho : f.Ok) (kids : List GFml) : Tri Tryz.prog 99 [f.st, .sl (kids.map GFml.av)] [] (D ({ f with Kids := kids } : GFml).st []) := by
 obtain ⟨⟨_, _, _, h4, h5⟩, h6, h7⟩ := ho
 have hv := Clone_str f.Vars (by have := h4.1; omega)
 have ha := Clone_str f.Args (by have := h5.1; omega)
 obtain ⟨k, ar, nm, vars, args, kids0⟩ := f
 simp only at *
 refine Tri.enter 16 Tryz.func99 rfl rfl rfl rfl fun Fr w0 => ?_
 repeat' (first | (refine AW.r 0 ?_; refine AL.box rfl rfl rfl fun b => ?_; refine AL.alloc_z (t := 25) (.st [.int .i64 0, .int .i64 0, .str empB, .sl [], .sl [], .sl []]) (by kernel_rfl) rfl rfl fun r => ?_; refine AL.nil ?_) | refine AW.go ?_ | fail)
 repeat' (first | (refine AW.ex 1 [false, true] [8, 10, 12] ?_; refine AQE.p rfl (AOp.fr 3) ?_; refine AQE.pe rfl (AOp.ll 0) ?_; refine AQE.p rfl (AOp.call rfl rfl (hv.pure _)) ?_; refine AQE.p rfl (AOp.fr 4) ?_; refine AQE.pe rfl (AOp.ll 0) ?_; refine AQE.p rfl (AOp.call rfl rfl (ha.pure _)) ?_; refine AQE.e ?_; refine AQE.p rfl (AOp.fr 3) ?_; refine AQE.hl ?_; refine AQE.p rfl (AOp.fr 4) ?_; refine AQE.hl ?_; refine AQE.p rfl (AOp.fr 5) ?_; refine AQE.hl ?_; refine AQE.nil ?_; refine AX.o (n := 2) 8 ?_; refine AXO.sl 0 fun _ => ?_; try dsimp only [sA, sB, sC, sD] <;> refine AX.o (n := 1) 10 ?_ <;> (refine AXO.sl 0 fun _ => ?_) <;> try dsimp only [sA, sB, sC, sD] <;> refine AX.o (n := 0) 12 ?_ <;> (refine AXO.sl 0 fun _ => ?_) <;> try dsimp only [sA, sB, sC, sD] <;> refine AX.done_keep [0, 2, 4, 15, 25] ?_) | refine AW.go ?_ | fail)
 refine AW.prune [2, 4] ?_
 repeat' (first | (refine AW.r 2 ?_; refine AL.d (AOp.lw 0) ?_; refine AL.sl 1 ?_; refine AL.nil ?_) | fail)
 exact AW.retc (.cell 1 rfl rfl (by kernel_rfl) .nil) (List.nil_sublist _) ⟨rfl, rfl⟩
theorem n_each (f : GFml) (ho : f.Ok) (fid : FuncId) (caps : List AV) (g : GFml → GFml) (hf : ∀ x ∈ f.Kids, Tri Tryz.prog fid (x.st :: caps) [] (D (g x).st [])) :
  Tri Tryz.prog 98 [f.st, .fn fid caps] [] (D ({ f with Kids := f.Kids.map g } : GFml).st []) := by
 have hw := fun kids => n_with f ho kids
 obtain ⟨_, h6, h7⟩ := ho
 obtain ⟨k, ar, nm, vars, args, kids⟩ := f
 simp only at *
 refine Tri.enter 25 Tryz.func98 rfl rfl rfl rfl fun Fr w0 => ?_
 repeat' (first | (refine AW.r 0 ?_; (refine AL.d (AOp.box_ro (v := .st [.int .i64 k, .int .i64 ar, .str nm, strs vars, strs args, .sl (kids.map GFml.av)]) rfl rfl) ?_) <;> (refine AL.alloc_z (t := 25) (.st [.int .i64 0, .int .i64 0, .str empB, .sl [], .sl [], .sl []]) (by kernel_rfl) rfl rfl fun r => ?_) <;> refine AL.nil ?_) | (refine AW.r 1 ?_; refine AL.d AOp.assign_nil ?_; refine AL.nil ?_) | (refine xS 2 3 ?_; refine AL.e ?_; refine AL.nil ?_) | refine AW.go ?_ | fail)
 refine AW.own_nil 6 ?_
 refine AW.prune [1, 2, 4, 5, 9, 10, 11] (AW.loop (fun mz af h => ∃ (i : Nat) (o : List GFml) (tt : Option Nat) (cc : Nat), i ≤ kids.length ∧ mz = kids.length - i ∧ af = [(1, .fn fid caps), (2, .at (.st [.int .i64 k, .int .i64 ar, .str nm, strs vars, strs args, .sl (kids.map GFml.av)])), (4, .ref r 0), (5, .slt (o.map GFml.av) tt cc), (9, .sl (kids.map GFml.av)), (10, .int .i64 (kids.map GFml.av).length), (11, .int .i64 i)] ∧ h = [.tail tt (o.map GFml.av).length cc 6, .box r (.st [.int .i64 0, .int .i64 0, .str empB, .sl [], .sl [], .sl []])] ∧ o = (kids.take i).map g) kids.length ⟨0, [], none, 0, Nat.zero_le _, rfl, rfl, rfl, by simp⟩ ?_)
 rintro mz af h ⟨i, o, tt, cc, hi, rfl, rfl, rfl, he⟩
 refine AW.seq ?_
 by_cases hlt : i < kids.length
 ·obtain ⟨x, hx⟩ := get_lt hlt
  have hx' : (kids.map GFml.av)[((i : Nat) : Int).toNat]? = some (x.st) := GFml.get hx
  have hc := hf x (lG hx)
  have hol : o.length ≤ 1353245080300 := by rw [he]; simp; omega
  have hm : (o ++ [g x]).map GFml.av = o.map GFml.av ++ [(g x).st] := by simp [GFml.av_eq]
  repeat' (first | refine AW.re 3 1 ?_ | (refine AW.r 4 ?_; refine AL.d (iX hx') ?_; refine AL.es 1 ?_; refine AL.alloc_store (by kernel_rfl) rfl rfl rfl rfl ?_; refine AL.nil ?_) | refine AW.jj (fun hb => ?_) (fun hb => ?_) | refine AW.go ?_ | fail)
  all_goals try (exfalso; simp only [dT, dF, lM] at *; omega)
  repeat' (first | (refine xS 5 3 ?_; refine AL.d (AOp.call rfl rfl (hc.pure _)) ?_; refine AL.d (AOp.lit (e := 25) (sz := 6) (by kernel_rfl) rfl rfl rfl (P_one rfl) (by decide)) ?_; refine AL.append (i := 0) (xs := o.map GFml.av) (e := 25) (sz := 6) (bytes := 104) rfl rfl rfl rfl (by kernel_rfl) (by kernel_rfl) (P_map GFml.size_av) (P_one rfl) rfl (by simp only [lM]; simp; omega) (by simp only [lM]; simp; omega) rfl fun b' c' => ?_ <;> refine AL.es 1 ?_ <;> refine AL.nil ?_) | refine AW.go ?_ | fail)
  refine AW.frame_eq rfl (show _ = [Own.tail b' ((o ++ [g x]).map GFml.av).length c' 6, .box r (.st [.int .i64 0, .int .i64 0, .str empB, .sl [], .sl [], .sl []])] from by rw [hm]; rfl) ?_
  repeat' (first | (refine AW.r 6 ?_; refine AL.d AOp.ad ?_; refine xN 1 ?_) | fail)
  rw [← hm]
  refine AW.again_keep (kids.length - (i + 1)) [1, 2, 4, 5, 9, 10, 11] (by omega) ⟨i + 1, o ++ [g x], b', c', hlt, rfl, rfl, rfl, ?_⟩
  rw [he, List.take_add_one, hx]; simp
 ·have ho2 : o = kids.map g := by rw [he, List.take_of_length_le (by omega)]
  subst ho2
  have hw1 := hw (kids.map g)
  refine AW.as_sl 5 rfl ?_
  repeat' (first | refine AW.re 3 1 ?_ | (refine AW.r 7 ?_; refine AL.d AOp.la ?_; refine AL.es 1 ?_; refine AL.d (AOp.call rfl rfl (hw1.pure _)) ?_; refine AL.sl 1 ?_; refine AL.nil ?_) | refine AW.jj (fun hb => ?_) (fun hb => ?_) | refine AW.go ?_ | fail)
  all_goals try (exfalso; simp only [dT, dF, lM] at *; omega)
  exact AW.retc (.cell 1 rfl rfl (by kernel_rfl) .nil) (List.nil_sublist _) ⟨rfl, rfl⟩
def zF : AV := .st [.int .i64 0, .int .i64 0, .str empB, .sl [], .sl [], .sl []]
def kv4 : List (AV × AV) := [(.int .i64 4, .int .i64 5), (.int .i64 5, .int .i64 4), (.int .i64 6, .int .i64 7), (.int .i64 7, .int .i64 6)]
theorem kv4_miss {k : Int} (h : qk k = false) : mfind (.int .i64 k) kv4 0 = none := by
 simp only [qk, Bool.or_eq_false_iff, beq_eq_false_iff_ne, ne_eq] at h
 obtain ⟨⟨⟨h4, h5⟩, h6⟩, h7⟩ := h
 simp [mfind, kv4, keq, h4, h5, h6, h7]
theorem kv4_hit {k : Int} (h : qk k = true) : ∃ j, mfind (.int .i64 k) kv4 0 = some (j, .int .i64 (oth k)) := by
 simp only [qk, Bool.or_eq_true, beq_iff_eq] at h
 have : k = 4 ∨ k = 5 ∨ k = 6 ∨ k = 7 := by omega
 rcases this with rfl | rfl | rfl | rfl <;> exact ⟨_, rfl⟩
theorem n_nn : ∀ (N : Nat) (f : GFml), ndF f ≤ N → f.Ok → shsF f = true → Tri Tryz.prog 52 [f.st] [] (D (nnF f false).st []) ∧ Tri Tryz.prog 97 [f.st] [] (D (nnF f true).st []) := by
 intro N
 induction N using Nat.strongRecOn with
 | _ N ih =>
  intro f hN ho hsh
  have hnd := ndF_eq f
  rw [shsF_eq, bA] at hsh
  have hk3 := shaped_not1 hsh.2
  have hE0 := n_each f ho 52 [] (fun x => nnF x false) fun x hx => (ih (ndF x) (by have := ndFs_mem hx; omega) x (Nat.le_refl _) (by obtain ⟨_, _, h⟩ := ho; exact h x hx) (shsFs_mem hsh.1 hx)).1
  have hE1 := n_each f ho 97 [] (fun x => nnF x true) fun x hx => (ih (ndF x) (by have := ndFs_mem hx; omega) x (Nat.le_refl _) (by obtain ⟨_, _, h⟩ := ho; exact h x hx) (shsFs_mem hsh.1 hx)).2
  have hI := fun x (hx : x ∈ f.Kids) => ih (ndF x) (by have := ndFs_mem hx; omega) x (Nat.le_refl _) (by obtain ⟨_, _, h⟩ := ho; exact h x hx) (shsFs_mem hsh.1 hx)
  have hmap0 := nnL_map false f.Kids
  have hmap1 := nnL_map true f.Kids
  obtain ⟨k, ar, nm, vars, args, kids⟩ := f
  simp only at *
  rw [← hmap0] at hE0
  rw [← hmap1] at hE1
  have hA : Tri Tryz.prog 52 [(⟨k, ar, nm, vars, args, kids⟩ : GFml).st] [] (D (nnF ⟨k, ar, nm, vars, args, kids⟩ false).st []) := by
   rw [nnF]
   cases k3 : k == 3 with
   | true =>
    obtain ⟨h1, _⟩ := hk3 (by simpa using k3)
    obtain rfl : k = 3 := by simpa using k3
    obtain ⟨y, rfl⟩ : ∃ y, kids = [y] := by
     match kids, h1 with
     | [y], _ => exact ⟨y, rfl⟩
    have hy : ([y].map GFml.av)[((0 : Int)).toNat]? = some y.st := by simp [GFml.av_eq]
    have hc := (hI y (by simp)).2
    rw [cond_true, nnH, Bool.not_false]
    refine Tri.enter 13 Tryz.func52 rfl rfl rfl rfl fun Fr w0 => ?_
    repeat' (first | (refine AW.r 0 ?_; (refine AL.d (AOp.box_ro (v := .st [.int .i64 3, .int .i64 ar, .str nm, strs vars, strs args, .sl ([y].map GFml.av)]) rfl rfl) ?_) <;> refine AL.alloc_z (t := 25) zF (by kernel_rfl) rfl rfl fun r => ?_ <;> refine AL.nil ?_) | (refine AW.r 1 ?_; refine AL.d AOp.fa ?_; refine AL.d AOp.la ?_; refine xN 1 ?_) | (refine AW.r 2 ?_; refine AL.d AOp.fa ?_; refine AL.d AOp.la ?_; refine AL.d (iX hy) ?_; refine AL.d AOp.la ?_; refine AL.d (AOp.call rfl rfl (hc.pure _)) ?_; refine AL.sl 0 ?_; refine AL.nil ?_) | refine AW.jt ?_ | fail)
    exact AW.retc (.cell 0 rfl rfl (by kernel_rfl) .nil) (List.nil_sublist _) ⟨rfl, rfl⟩
   | false =>
    rw [cond_false]
    have hr : (bif qk k then (⟨bif false then oth k else k, ar, nm, vars, args, nnL kids false⟩ : GFml) else bif false then ⟨3, 0, empB, [], [], [⟨k, ar, nm, vars, args, nnL kids false⟩]⟩ else ⟨k, ar, nm, vars, args, nnL kids false⟩) = ⟨k, ar, nm, vars, args, nnL kids false⟩ := by cases qk k <;> rfl
    rw [hr]
    refine Tri.enter 13 Tryz.func52 rfl rfl rfl rfl fun Fr w0 => ?_
    repeat' (first | (refine AW.r 0 ?_; (refine AL.d (AOp.box_ro (v := .st [.int .i64 k, .int .i64 ar, .str nm, strs vars, strs args, .sl (kids.map GFml.av)]) rfl rfl) ?_) <;> refine AL.alloc_z (t := 25) zF (by kernel_rfl) rfl rfl fun r => ?_ <;> refine AL.nil ?_) | (refine AW.r 1 ?_; refine AL.d AOp.fa ?_; refine AL.d AOp.la ?_; refine xN 1 ?_) | (refine AW.r 3 ?_; refine AL.d AOp.la ?_; refine AL.d (AOp.call rfl rfl (hE0.pure _)) ?_; refine AL.sl 0 ?_; refine AL.nil ?_) | refine AW.jj (fun hb => ?_) (fun hb => ?_) | refine AW.go ?_ | fail)
    all_goals try (exfalso; rw [k3] at hb; exact Bool.noConfusion hb)
    exact AW.retc (.cell 0 rfl rfl (by kernel_rfl) .nil) (List.nil_sublist _) ⟨rfl, rfl⟩
  refine ⟨hA, ?_⟩
  rw [nnF] at hA ⊢
  cases k3 : k == 3 with
  | true =>
   obtain ⟨h1, _⟩ := hk3 (by simpa using k3)
   obtain rfl : k = 3 := by simpa using k3
   obtain ⟨y, rfl⟩ : ∃ y, kids = [y] := by
    match kids, h1 with
    | [y], _ => exact ⟨y, rfl⟩
   have hy : ([y].map GFml.av)[((0 : Int)).toNat]? = some y.st := by simp [GFml.av_eq]
   have hc := (hI y (by simp)).1
   rw [cond_true, nnH, Bool.not_true]
   refine Tri.enter 34 Tryz.func97 rfl rfl rfl rfl fun Fr w0 => ?_
   repeat' (first | (refine AW.r 0 ?_; (refine AL.d (AOp.box_ro (v := .st [.int .i64 3, .int .i64 ar, .str nm, strs vars, strs args, .sl ([y].map GFml.av)]) rfl rfl) ?_) <;> refine AL.alloc_z (t := 25) zF (by kernel_rfl) rfl rfl fun r => ?_ <;> refine AL.nil ?_) | (refine AW.r 1 ?_; refine AL.makeMap rfl fun bm => ?_; refine AL.insert (i := 0) (kd := .int .i64) (e := 3) rfl rfl rfl rfl (by kernel_rfl) rfl rfl ?_; refine AL.insert (i := 0) (kd := .int .i64) (e := 3) rfl rfl rfl rfl (by kernel_rfl) rfl rfl ?_; refine AL.insert (i := 0) (kd := .int .i64) (e := 3) rfl rfl rfl rfl (by kernel_rfl) rfl rfl ?_; refine AL.insert (i := 0) (kd := .int .i64) (e := 3) rfl rfl rfl rfl (by kernel_rfl) rfl rfl ?_; refine xN 2 ?_) | (refine AW.r 2 ?_; refine AL.d AOp.fa ?_; refine AL.d AOp.la ?_; refine xN 1 ?_) | (refine AW.r 3 ?_; refine AL.d AOp.fa ?_; refine AL.d AOp.la ?_; refine AL.d (iX hy) ?_; refine AL.d AOp.la ?_; refine AL.d (AOp.call rfl rfl (hc.pure _)) ?_; refine AL.sl 1 ?_; refine AL.nil ?_) | refine AW.jt ?_ | fail)
   exact AW.retc (.cell 1 rfl rfl (by kernel_rfl) .nil) (List.nil_sublist _) ⟨rfl, rfl⟩
  | false =>
   rw [cond_false]
   rw [k3, cond_false] at hA
   cases hq : qk k with
   | true =>
    obtain ⟨j, hj⟩ := kv4_hit hq
    rw [cond_true, cond_true]
    refine Tri.enter 34 Tryz.func97 rfl rfl rfl rfl fun Fr w0 => ?_
    repeat' (first | (refine AW.r 0 ?_; (refine AL.d (AOp.box_ro (v := .st [.int .i64 k, .int .i64 ar, .str nm, strs vars, strs args, .sl (kids.map GFml.av)]) rfl rfl) ?_) <;> refine AL.alloc_z (t := 25) zF (by kernel_rfl) rfl rfl fun r => ?_ <;> refine AL.nil ?_) | (refine AW.r 1 ?_; refine AL.makeMap rfl fun bm => ?_; refine AL.insert (i := 0) (kd := .int .i64) (e := 3) rfl rfl rfl rfl (by kernel_rfl) rfl rfl ?_; refine AL.insert (i := 0) (kd := .int .i64) (e := 3) rfl rfl rfl rfl (by kernel_rfl) rfl rfl ?_; refine AL.insert (i := 0) (kd := .int .i64) (e := 3) rfl rfl rfl rfl (by kernel_rfl) rfl rfl ?_; refine AL.insert (i := 0) (kd := .int .i64) (e := 3) rfl rfl rfl rfl (by kernel_rfl) rfl rfl ?_; refine xN 2 ?_) | (refine AW.r 2 ?_; refine AL.d AOp.fa ?_; refine AL.d AOp.la ?_; refine xN 1 ?_) | refine AW.jj (fun hb => ?_) (fun hb => ?_) | refine AW.go ?_ | fail)
    all_goals try (exfalso; rw [k3] at hb; exact Bool.noConfusion hb)
    repeat' (first | (refine xS 4 1 ?_; refine AL.d AOp.fa ?_; refine AL.d AOp.la ?_; refine AL.d (AOp.lookup_hit (i := 0) (kd := .int .i64) (e := 3) (ok := true) rfl rfl rfl (by kernel_rfl) rfl rfl hj) ?_; refine xN 5 ?_) | refine AW.re 5 1 ?_ | (refine AW.r 6 ?_; refine AL.d AOp.la ?_; refine AL.d (AOp.call rfl rfl (hE1.pure _)) ?_; refine AL.alloc_z (t := 25) zF (by kernel_rfl) rfl rfl fun r2 => ?_; refine AL.sl 0 ?_; refine AL.nil ?_) | (refine xS 7 1 ?_; refine AL.d (AOp.fr 0) ?_; refine AL.sl 0 ?_; refine AL.nil ?_) | (refine AW.r 8 ?_; refine AL.d (AOp.lw 0) ?_; refine AL.sl 2 ?_; refine AL.nil ?_) | refine AW.jt ?_ | fail)
    exact AW.retc (.cell 2 rfl rfl (by kernel_rfl) .nil) (List.nil_sublist _) ⟨rfl, rfl⟩
   | false =>
    rw [cond_false, cond_true]
    rw [hq, cond_false, cond_false] at hA
    refine Tri.enter 34 Tryz.func97 rfl rfl rfl rfl fun Fr w0 => ?_
    repeat' (first | (refine AW.r 0 ?_; (refine AL.d (AOp.box_ro (v := .st [.int .i64 k, .int .i64 ar, .str nm, strs vars, strs args, .sl (kids.map GFml.av)]) rfl rfl) ?_) <;> refine AL.alloc_z (t := 25) zF (by kernel_rfl) rfl rfl fun r => ?_ <;> refine AL.nil ?_) | (refine AW.r 1 ?_; refine AL.makeMap rfl fun bm => ?_; refine AL.insert (i := 0) (kd := .int .i64) (e := 3) rfl rfl rfl rfl (by kernel_rfl) rfl rfl ?_; refine AL.insert (i := 0) (kd := .int .i64) (e := 3) rfl rfl rfl rfl (by kernel_rfl) rfl rfl ?_; refine AL.insert (i := 0) (kd := .int .i64) (e := 3) rfl rfl rfl rfl (by kernel_rfl) rfl rfl ?_; refine AL.insert (i := 0) (kd := .int .i64) (e := 3) rfl rfl rfl rfl (by kernel_rfl) rfl rfl ?_; refine xN 2 ?_) | (refine AW.r 2 ?_; refine AL.d AOp.fa ?_; refine AL.d AOp.la ?_; refine xN 1 ?_) | refine AW.jj (fun hb => ?_) (fun hb => ?_) | refine AW.go ?_ | fail)
    all_goals try (exfalso; rw [k3] at hb; exact Bool.noConfusion hb)
    repeat' (first | (refine xS 4 1 ?_; refine AL.d AOp.fa ?_; refine AL.d AOp.la ?_; refine AL.d (AOp.lookup_miss (i := 0) (kd := .int .i64) (e := 3) (.int .i64 0) (ok := true) rfl rfl rfl (by kernel_rfl) (by kernel_rfl) rfl rfl (kv4_miss hq)) ?_; refine xN 5 ?_) | refine AW.re 5 1 ?_ | (refine AW.r 9 ?_; refine AL.d AOp.la ?_; refine AL.d (AOp.call rfl rfl (hA.pure _)) ?_; refine AL.d (AOp.lit (e := 25) (sz := 6) (by kernel_rfl) rfl rfl rfl (P_one rfl) (by decide)) ?_; refine AL.d (AOp.build (pl := [(0, 1), (1, 1), (2, 1), (3, 1), (4, 1), (5, 1)]) (z := .st [.int .i64 0, .int .i64 0, .str ⟨#[]⟩, .sl [], .sl [], .sl []]) (by kernel_rfl) rfl rfl rfl) ?_ <;> (refine AL.sl 1 ?_) <;> refine AL.nil ?_) | refine AW.jf ?_ | fail)
    refine AW.retc (.cell 1 rfl rfl (by kernel_rfl) .nil) (List.nil_sublist _) ⟨?_, rfl⟩
    simp [GFml.st, GFml.av_eq, resv, strs]
    exact ⟨rfl, rfl⟩
def noF : GFml := ⟨0, 0, empB, [], [], []⟩
def fitF (f : GFml) : GFml × Int := bif validF f then (f, 0) else (noF, 5)
theorem n_fit (f : GFml) (ho : f.Ok) : Tri Tryz.prog 51 [f.st] [] (D (.tup [(fitF f).1.st, .int .i64 (fitF f).2]) []) := by
 have hv := f_Valid f ho
 unfold fitF
 generalize validF f = V at *
 obtain ⟨k, ar, nm, vars, args, kids⟩ := f
 cases V with
 | true =>
  refine Tri.enter 9 Tryz.func51 rfl rfl rfl rfl fun Fr w0 => ?_
  repeat' (first | (refine AW.r 0 ?_; (refine AL.d (AOp.box_ro (v := .st [.int .i64 k, .int .i64 ar, .str nm, strs vars, strs args, .sl (kids.map GFml.av)]) rfl rfl) ?_) <;> refine AL.alloc_z (t := 25) zF (by kernel_rfl) rfl rfl fun r => ?_ <;> refine AL.es 1 ?_ <;> refine AL.nil ?_) | (refine AW.r 1 ?_; refine AL.d AOp.la ?_; refine AL.d (AOp.call rfl rfl (hv.pure _)) ?_; refine xN 1 ?_) | (refine AW.r 3 ?_; refine AL.d AOp.la ?_; refine AL.sl 0 ?_; refine xN 1 ?_) | refine AW.jf ?_ | fail)
  exact AW.retc (.cell 0 rfl rfl (by kernel_rfl) (.tmp rfl .nil)) (List.nil_sublist _) ⟨rfl, rfl⟩
 | false =>
  refine Tri.enter 9 Tryz.func51 rfl rfl rfl rfl fun Fr w0 => ?_
  repeat' (first | (refine AW.r 0 ?_; (refine AL.d (AOp.box_ro (v := .st [.int .i64 k, .int .i64 ar, .str nm, strs vars, strs args, .sl (kids.map GFml.av)]) rfl rfl) ?_) <;> refine AL.alloc_z (t := 25) zF (by kernel_rfl) rfl rfl fun r => ?_ <;> refine AL.es 1 ?_ <;> refine AL.nil ?_) | (refine AW.r 1 ?_; refine AL.d AOp.la ?_; refine AL.d (AOp.call rfl rfl (hv.pure _)) ?_; refine xN 1 ?_) | (refine AW.r 2 ?_; refine AL.d (AOp.build (pl := [(0, 1), (1, 1), (2, 1), (3, 1), (4, 1), (5, 1)]) (z := .st [.int .i64 0, .int .i64 0, .str ⟨#[]⟩, .sl [], .sl [], .sl []]) (by kernel_rfl) rfl rfl rfl) ?_ <;> refine AL.sl 0 ?_ <;> refine AL.es 1 ?_ <;> refine AL.nil ?_) | refine AW.jt ?_ | fail)
  exact AW.retc (.cell 0 rfl rfl (by kernel_rfl) (.tmp rfl .nil)) (List.nil_sublist _) ⟨rfl, rfl⟩
theorem validF_shs {f : GFml} (h : validF f = true) : shsF f = true := by
 unfold validF at h
 simp only [bA] at h
 exact h.1.1.1.2
def nnfP (f : GFml) : GFml × Int := bif validF f then fitF (nnF f false) else (noF, 1)
theorem n_Nnf (f : GFml) (ho : f.Ok) : Tri Tryz.prog 13 [f.st] [] (D (.tup [(nnfP f).1.st, .int .i64 (nnfP f).2]) []) := by
 have hv := f_Valid f ho
 have hF := n_fit (nnF f false) (nn_ok f false ho)
 have hN := fun h => (n_nn _ f (Nat.le_refl _) ho (validF_shs h)).1
 unfold nnfP
 generalize fitF (nnF f false) = R at *
 generalize nnF f false = g at *
 generalize validF f = V at *
 obtain ⟨R1, R2⟩ := R
 obtain ⟨k, ar, nm, vars, args, kids⟩ := f
 cases V with
 | true =>
  have hN' := hN rfl
  refine Tri.enter 13 Tryz.func13 rfl rfl rfl rfl fun Fr w0 => ?_
  repeat' (first | (refine AW.r 0 ?_; (refine AL.d (AOp.box_ro (v := .st [.int .i64 k, .int .i64 ar, .str nm, strs vars, strs args, .sl (kids.map GFml.av)]) rfl rfl) ?_) <;> refine AL.alloc_z (t := 25) zF (by kernel_rfl) rfl rfl fun r => ?_ <;> refine AL.es 1 ?_ <;> refine AL.nil ?_) | (refine AW.r 1 ?_; refine AL.d AOp.la ?_; refine AL.d (AOp.call rfl rfl (hv.pure _)) ?_; refine xN 1 ?_) | (refine AW.r 3 ?_; refine AL.d AOp.la ?_; refine AL.d (AOp.call rfl rfl (hN'.pure _)) ?_; refine AL.d (AOp.call rfl rfl (hF.pure _)) ?_; refine AL.es 2 ?_; refine AL.sl 0 ?_; refine xN 1 ?_) | refine AW.jf ?_ | fail)
  exact AW.retc (.cell 0 rfl rfl (by kernel_rfl) (.tmp rfl .nil)) (List.nil_sublist _) ⟨rfl, rfl⟩
 | false =>
  refine Tri.enter 13 Tryz.func13 rfl rfl rfl rfl fun Fr w0 => ?_
  repeat' (first | (refine AW.r 0 ?_; (refine AL.d (AOp.box_ro (v := .st [.int .i64 k, .int .i64 ar, .str nm, strs vars, strs args, .sl (kids.map GFml.av)]) rfl rfl) ?_) <;> refine AL.alloc_z (t := 25) zF (by kernel_rfl) rfl rfl fun r => ?_ <;> refine AL.es 1 ?_ <;> refine AL.nil ?_) | (refine AW.r 1 ?_; refine AL.d AOp.la ?_; refine AL.d (AOp.call rfl rfl (hv.pure _)) ?_; refine xN 1 ?_) | (refine AW.r 2 ?_; refine AL.d (AOp.build (pl := [(0, 1), (1, 1), (2, 1), (3, 1), (4, 1), (5, 1)]) (z := .st [.int .i64 0, .int .i64 0, .str ⟨#[]⟩, .sl [], .sl [], .sl []]) (by kernel_rfl) rfl rfl rfl) ?_ <;> refine AL.sl 0 ?_ <;> refine AL.es 1 ?_ <;> refine AL.nil ?_) | refine AW.jt ?_ | fail)
  exact AW.retc (.cell 0 rfl rfl (by kernel_rfl) (.tmp rfl .nil)) (List.nil_sublist _) ⟨rfl, rfl⟩
def bld0 (b : Nat) : AH := [.trow b 123 [.val (.pointer none), nilS]]
def bld1 (b : Nat) : AH := [.trow b 123 [.ref b 0, nilS]]
def bldW (b g : Nat) (us tl : List AV) : AH := [.trow b 123 [.ref b 0, .osl g us.length (us.length + tl.length)], .trow g 5 (us ++ tl)]
theorem copy0 (b : Nat) : Tri Tryz.prog 166 [.ref b 0] (bld0 b) (D (.tup []) (bld1 b)) := by
 refine Tri.enter 20 Tryz.func166 rfl rfl rfl rfl fun Fr w0 => ?_
 repeat' (first | (refine xS 0 2 ?_; refine AL.d (AOp.fr 0) ?_; refine AL.d (AOp.load_tcell 0 rfl rfl rfl rfl (by kernel_rfl)) ?_; refine AL.d (AOp.ptr_nil_nil 123 rfl (by kernel_rfl)) ?_; refine AL.nil ?_) | (refine xS 1 2 ?_; refine AL.d (AOp.conv_un (src := 120) (dst := 215) 0 123 rfl rfl (by kernel_rfl) (by kernel_rfl) (by kernel_rfl) (by decide)) ?_; refine AL.d (AOp.call_same rfl rfl Tryz.func187 (by kernel_rfl) (by kernel_rfl) (by kernel_rfl) (by kernel_rfl)) ?_; refine AL.d (AOp.conv_from (src := 215) (dst := 120) 0 rfl rfl (by kernel_rfl) (by kernel_rfl) (by kernel_rfl) (by kernel_rfl)) ?_; refine AL.es 1 ?_; refine AL.d (AOp.fr 0) ?_; refine AL.store_tcell 0 rfl rfl rfl rfl rfl rfl (by kernel_rfl) ?_; refine AL.nil ?_) | refine AW.jt ?_ | fail)
 exact AW.donev rfl ⟨rfl, rfl⟩
theorem copyW (b : Nat) (v : AV) : Tri Tryz.prog 166 [.ref b 0] [.trow b 123 [.ref b 0, v]] (D (.tup []) [.trow b 123 [.ref b 0, v]]) := by
 refine Tri.enter 20 Tryz.func166 rfl rfl rfl rfl fun Fr w0 => ?_
 repeat' (first | (refine xS 0 2 ?_; refine AL.d (AOp.fr 0) ?_; refine AL.d (AOp.load_tcell 0 rfl rfl rfl rfl (by kernel_rfl)) ?_; refine AL.d (AOp.ptr_nil_ref 123 rfl (by kernel_rfl)) ?_; refine AL.nil ?_) | (refine xS 2 2 ?_; refine AL.d (AOp.fr 0) ?_; refine AL.d (AOp.load_tcell 0 rfl rfl rfl rfl (by kernel_rfl)) ?_; refine AL.es 1 ?_; refine AL.d (AOp.ptr_ne_self 123 rfl rfl (by kernel_rfl) (by kernel_rfl)) ?_; refine AL.nil ?_) | refine AW.jf ?_ | refine AW.go ?_ | fail)
 exact AW.donev rfl ⟨rfl, rfl⟩
theorem ws0 (b : Nat) (s : ByteArray) (h0 : 0 < s.size) (hs : s.size ≤ 140737488355328) : Tri Tryz.prog 143 [.ref b 0, .str s] (bld0 b) (fun x h => (∃ v, x = .ret v) ∧ ∃ g tl, h = bldW b g (bytesAV s) tl) := by
 have hc := copy0 b
 refine Tri.enter 19 Tryz.func143 rfl rfl rfl rfl fun Fr w0 => ?_
 repeat' (first | refine AW.re 0 2 ?_ | (refine xS 1 1 ?_; refine AL.d (AOp.call rfl rfl hc) ?_; refine AL.nil ?_) | refine AW.go ?_ | fail)
 repeat' (first | (refine AW.r 2 ?_; refine AL.e ?_; refine AL.e ?_; refine AL.es 1 ?_; refine AL.d (AOp.fr 1) ?_; refine AL.d (AOp.load_tcell 0 rfl rfl rfl rfl (by kernel_rfl)) ?_; refine AL.e ?_; (refine AL.step rfl rfl (AOp.append_str0 (e := 5) rfl rfl h0 (by kernel_rfl) (by kernel_rfl) hs) ?_ (by rintro _ _ ⟨_, _, e, _⟩; cases e); rintro _ _ ⟨g, tl, e, rfl⟩; injection e with e; subst e) <;> refine AL.es 1 ?_ <;> (refine AL.d (AOp.fr 1) ?_) <;> (refine AL.store_tcell 1 rfl rfl rfl rfl rfl rfl (by kernel_rfl) ?_) <;> refine AL.nil ?_) | refine AW.go ?_ | fail)
 refine AW.perm (b := bldW b g (bytesAV s) tl) (.swap _ _ _) ?_
 repeat' (first | refine AW.re 3 4 ?_ | fail)
 exact AW.retv rfl ⟨⟨_, rfl⟩, _, _, rfl⟩
theorem wsW (b g : Nat) (us tl : List AV) (s : ByteArray) (hs : us.length + s.size ≤ 140737488355328) : Tri Tryz.prog 143 [.ref b 0, .str s] (bldW b g us tl) (fun x h => (∃ v, x = .ret v) ∧ ∃ g tl, h = bldW b g (us ++ bytesAV s) tl) := by
 have hc : Tri Tryz.prog 166 [.ref b 0] (bldW b g us tl) (D (.tup []) (bldW b g us tl)) := Tri.frameD (ah := bldW b g us tl) [true] (copyW b _)
 refine Tri.enter 19 Tryz.func143 rfl rfl rfl rfl fun Fr w0 => ?_
 repeat' (first | refine AW.re 0 2 ?_ | (refine xS 1 1 ?_; refine AL.d (AOp.call rfl rfl hc) ?_; refine AL.nil ?_) | refine AW.go ?_ | fail)
 repeat' (first | (refine AW.r 2 ?_; refine AL.e ?_; refine AL.e ?_; refine AL.es 1 ?_; refine AL.d (AOp.fr 1) ?_; refine AL.d (AOp.load_tcell 0 rfl rfl rfl rfl (by kernel_rfl)) ?_; refine AL.e ?_; (refine AL.step rfl rfl (AOp.append_str (i := 1) (us := us) (tl := tl) (e := 5) rfl rfl rfl (by kernel_rfl) (by kernel_rfl) hs) ?_ (by rintro _ _ ⟨_, _, e, _⟩; cases e); rintro _ _ ⟨g2, tl2, e, rfl⟩; injection e with e; subst e) <;> refine AL.es 1 ?_ <;> (refine AL.d (AOp.fr 1) ?_) <;> (refine AL.store_tcell 0 rfl rfl rfl rfl rfl rfl (by kernel_rfl) ?_) <;> refine AL.nil ?_) | refine AW.go ?_ | fail)
 repeat' (first | refine AW.re 3 4 ?_ | fail)
 exact AW.retv rfl ⟨⟨_, rfl⟩, _, _, rfl⟩
theorem wbW (b g : Nat) (us tl : List AV) (c : Int) (hs : us.length + 1 ≤ 140737488355328) : Tri Tryz.prog 144 [.ref b 0, .int .u8 c] (bldW b g us tl) (fun x h => (∃ v, x = .ret v) ∧ ∃ g tl, h = bldW b g (us ++ [.int .u8 c]) tl) := by
 have hc : Tri Tryz.prog 166 [.ref b 0] (bldW b g us tl) (D (.tup []) (bldW b g us tl)) := Tri.frameD (ah := bldW b g us tl) [true] (copyW b _)
 refine Tri.enter 17 Tryz.func144 rfl rfl rfl rfl fun Fr w0 => ?_
 repeat' (first | refine AW.re 0 1 ?_ | (refine xS 1 1 ?_; refine AL.d (AOp.call rfl rfl hc) ?_; refine AL.nil ?_) | refine AW.go ?_ | fail)
 repeat' (first | (refine AW.r 2 ?_; refine AL.e ?_; refine AL.e ?_; refine AL.es 1 ?_; refine AL.d (AOp.fr 1) ?_; refine AL.d (AOp.load_tcell 0 rfl rfl rfl rfl (by kernel_rfl)) ?_; refine AL.e ?_; refine AL.d (AOp.lit (e := 5) (sz := 1) (by kernel_rfl) rfl rfl rfl (P_one rfl) (by decide)) ?_; (refine AL.step rfl rfl (AOp.append_t (i := 1) (us := us) (tl := tl) (v := .int .u8 c) (e := 5) (bytes := 1) (c0 := .int .u8 0) rfl rfl rfl rfl rfl (by kernel_rfl) (by kernel_rfl) (by omega) (by omega)) ?_ (by rintro _ _ ⟨_, _, e, _⟩; cases e); rintro _ _ ⟨g2, tl2, e, rfl⟩; injection e with e; subst e) <;> refine AL.es 1 ?_ <;> (refine AL.d (AOp.fr 1) ?_) <;> (refine AL.store_tcell 0 rfl rfl rfl rfl rfl rfl (by kernel_rfl) ?_) <;> refine AL.nil ?_) | refine AW.go ?_ | fail)
 repeat' (first | refine AW.re 3 1 ?_ | fail)
 exact AW.retv rfl ⟨⟨_, rfl⟩, _, _, rfl⟩
theorem lenW (b g : Nat) (us tl : List AV) : Tri Tryz.prog 94 [.ref b 0] (bldW b g us tl) (D (.int .i64 us.length) (bldW b g us tl)) := by
 refine Tri.enter 8 Tryz.func94 rfl rfl rfl rfl fun Fr w0 => ?_
 repeat' (first | refine AW.re 0 1 ?_ | (refine xS 1 2 ?_; refine AL.d (AOp.fr 1) ?_; refine AL.d (AOp.load_tcell 0 rfl rfl rfl rfl (by kernel_rfl)) ?_; refine xN 2 ?_) | fail)
 exact AW.retv rfl ⟨rfl, rfl⟩
theorem strW (b g : Nat) (l : List UInt8) (tl : List AV) (h0 : l ≠ []) (hl : l.length ≤ 9223372036854775807) : Tri Tryz.prog 95 [.ref b 0] (bldW b g (bytesAV ⟨l.toArray⟩) tl) (D (.str ⟨l.toArray⟩) []) := by
 have hb : (bytesAV ⟨l.toArray⟩).length = l.length := by rw [bytesAV_length]; simp [ByteArray.size]
 have hp : 0 < l.length := List.length_pos_iff.2 h0
 refine Tri.enter 14 Tryz.func95 rfl rfl rfl rfl fun Fr w0 => ?_
 repeat' (first | refine AW.re 0 1 ?_ | refine AW.go ?_ | fail)
 repeat' (first | (refine AW.ex 1 [false, true] [10, 11] ?_; refine AQE.e ?_; refine AQE.e ?_; refine AQE.p rfl (AOp.fr 1) ?_; refine AQE.p rfl (AOp.load_tcell 0 rfl rfl rfl rfl (by kernel_rfl)) ?_; refine AQE.p rfl (AOp.sliceData rfl (by rw [hb]; exact hp)) ?_ <;> refine AQE.e ?_ <;> refine AQE.e ?_ <;> (refine AQE.p rfl (AOp.fr 1) ?_) <;> (refine AQE.p rfl (AOp.load_tcell 0 rfl rfl rfl rfl (by kernel_rfl)) ?_) <;> ((refine AQE.p rfl (AOp.len (n := l.length) rfl (by rw [← hb]; rfl) (by kernel_rfl)) ?_)) <;> refine AQE.hl ?_ <;> refine AQE.hl ?_ <;> refine AQE.nil ?_ <;> refine AX.o (n := 1) 10 ?_ <;> refine AXO.d (AOp.unsafeStr (i := 0) (l := l) (tl := tl) (e := 5) rfl rfl rfl h0 (by kernel_rfl) (by kernel_rfl) hl) ?_ <;> try dsimp only [sA, sB, sC, sD] <;> refine AX.o (n := 0) 11 ?_ <;> refine AXO.e ?_ <;> try dsimp only [sA, sB, sC, sD] <;> refine AX.done_keep [2] ?_) | fail)
 exact AW.ret_drop rfl (List.nil_sublist _) ⟨rfl, rfl⟩
def joinB (xs : List ByteArray) (sep : ByteArray) : ByteArray := ⟨(Lib.join (xs.map (·.data.toList)) sep.data.toList).toArray⟩
theorem Join_str (xs : List ByteArray) (sep : ByteArray) (hN : xs.length ≤ 140737488355328) (hlen : (joinB xs sep).size ≤ 140737488355328) : Tri Tryz.prog 145 [strs xs, .str sep] [] (D (.str (joinB xs sep)) []) := by
 refine ⟨⟨_, Tryz.func145, rfl, rfl⟩, fun Fr w vs hst hrel => ?_⟩
 simp only [RelVs] at hrel
 obtain ⟨u1, us, rfl, h1, h1', u2, us2, rfl, h2, h2', rfl⟩ := hrel
 obtain ⟨A, c, hu, k1, k2, k3⟩ := srcOf_rel (v := strs xs) ⟨h1, h1'⟩ rfl
 have hs : u2 = .string sep := Rel.str ⟨h2, h2'⟩
 subst hu hs
 rw [lM] at k1 ⊢
 have hmono : ∀ e w', e = Ending.returned (.string (joinB xs sep)) ∧ Below w.heap.size w w' → EndR Fr (reg []) w (D (.str (joinB xs sep)) []) e w' := by
  rintro e w' ⟨rfl, hb⟩
  have hext : Ext (fun _ _ => False) w w' := ⟨hb.os, hb.tape, hb.output, hb.size, fun k hk _ => hb.block k hk, fun ad v hc _ => (World.cell?_of_block (hb.block ad.block (cell_lt hc))).trans hc⟩
  exact ⟨_, _, ⟨rfl, rfl⟩, ⟨_, rfl, mk_str⟩, hst.grow hext, hext.mono fun _ _ h => h.elim, fun _ _ _ h => h⟩
 by_cases hx : xs = []
 ·subst hx
  refine (Tryz.strings_Join_none A c sep w).mono fun e w' ⟨he, hw⟩ => hmono e w' ⟨he, hw ▸ Below.refl _ _⟩
 ·obtain ⟨b, o, sz, rfl, hr⟩ := k3 (by simpa using hx)
  obtain ⟨ds, d1, d2, d3, d4⟩ := hr.cells
  have hsz1 : sz = 1 := by
   cases xs with
   | nil => exact (hx rfl).elim
   | cons x l => exact (d2 (.str x) (by simp)).symm
  subst hsz1
  have hcells : ∀ (j : Nat) x, xs[j]? = some x → w.cell? ⟨b, o + j, none⟩ = some (.string x) := fun j x hj => by
   obtain ⟨v, hv, hrv⟩ := RelCs.get1 d1 d2 j (.str x) (by simp [hj])
   simp only [RelC, List.cons.injEq, and_true] at hrv
   subst hrv
   exact (d4 j _ hv).2
  have hbk : b < w.heap.size := by
   cases xs with
   | nil => exact (hx rfl).elim
   | cons x l => exact cell_lt (hcells 0 x rfl)
  exact (Tryz.strings_Join b o c xs sep w hcells hbk hN k1 (by simpa [joinB, ByteArray.size] using hlen)).mono fun e w' h => hmono e w' h
def sp : ByteArray := ⟨#[32]⟩
def hdT (k : Int) (nm JV JA : ByteArray) : ByteArray :=
 if k = 0 then nm ++ ⟨#[40]⟩ ++ JA ++ ⟨#[41]⟩ else if k = 3 then ⟨#[110, 111, 116, 40]⟩ else if k = 5 then ⟨#[111, 114, 40]⟩ else ⟨#[97, 108, 108, 40]⟩ ++ JV ++ ⟨#[58, 32]⟩
mutual
def txA : GFml → List AV
 | ⟨k, ar, nm, vars, args, kids⟩ => bif k == 0 then bytesAV (hdT k nm (joinB vars sp) (joinB args sp)) else bytesAV (hdT k nm (joinB vars sp) (joinB args sp)) ++ txK true kids ++ [.int .u8 41]
def txK : Bool → List GFml → List AV
 | _, [] => []
 | fst, x :: l => (bif fst then [] else bytesAV ⟨#[44, 32]⟩) ++ txA x ++ txK false l
end
mutual
def wOk : GFml → Bool
 | ⟨k, ar, nm, vars, args, kids⟩ => decide (vars.length ≤ 1000000) && decide (args.length ≤ 1000000) && decide ((joinB vars sp).size ≤ 1000000) && decide ((joinB args sp).size ≤ 1000000) && decide (nm.size ≤ 1000000) && (k == 0 || k == 3 || (k == 5 && decide (0 < kids.length)) || k == 7) && wOks kids
def wOks : List GFml → Bool
 | [] => true
 | x :: l => wOk x && wOks l
end
def BW (b : Nat) (us : List AV) (h : AH) : Prop := (us = [] ∧ h = bld0 b) ∨ ∃ g tl, h = bldW b g us tl
theorem ws_any (b : Nat) (us : List AV) (h : AH) (s : ByteArray) (hB : BW b us h) (h0 : 0 < s.size) (hs : us.length + s.size ≤ 140737488355328) : Tri Tryz.prog 143 [.ref b 0, .str s] h (fun x h => (∃ v, x = .ret v) ∧ ∃ g tl, h = bldW b g (us ++ bytesAV s) tl) := by
 rcases hB with ⟨rfl, rfl⟩ | ⟨g, tl, rfl⟩
 ·exact ws0 b s h0 (by simpa using hs)
 ·exact wsW b g us tl s hs
def sepA (i : Nat) : List AV := bif i == 0 then [] else bytesAV ⟨#[44, 32]⟩
theorem wr_kids (k ar : Int) (nm : ByteArray) (vars args : List ByteArray) (kids : List GFml) (b : Nat) (hk : kids.length ≤ 1000000)
  (ih : ∀ x ∈ kids, ∀ g us tl, us.length + (txA x).length ≤ 1000000 → Tri Tryz.prog 93 [.ref b 0, x.st] (bldW b g us tl) (fun y h => y = .ret (.tup []) ∧ ∃ g' tl', h = bldW b g' (us ++ txA x) tl'))
  (g : Nat) (us tl : List AV) (hl : us.length + (txK true kids).length + 1 ≤ 1000000) :
  Tri Tryz.prog 142 [.at (.st [.int .i64 k, .int .i64 ar, .str nm, strs vars, strs args, .sl (kids.map GFml.av)]), .at (.ref b 0)] (bldW b g us tl) (fun y h => y = .ret (.tup []) ∧ ∃ g' tl', h = bldW b g' (us ++ txK true kids ++ [.int .u8 41]) tl') := by
 refine Tri.enter 22 Tryz.func142 rfl rfl rfl rfl fun Fr w0 => ?_
 repeat' (first | refine AW.re 0 4 ?_ | refine AW.go ?_ | fail)
 refine AW.prune [1, 5, 6, 7] (AW.loop (fun mz af h => ∃ (i : Nat) (gg : Nat) (uu : List AV) (tt : List AV), i ≤ kids.length ∧ mz = kids.length - i ∧ af = [(1, .at (.ref b 0)), (5, .sl (kids.map GFml.av)), (6, .int .i64 (kids.map GFml.av).length), (7, .int .i64 i)] ∧ h = bldW b gg uu tt ∧ (us ++ txK true kids = uu ++ txK (i == 0) (kids.drop i) ∧ uu.length + (txK (i == 0) (kids.drop i)).length + 1 ≤ 1000000)) kids.length ⟨0, g, us, tl, Nat.zero_le _, rfl, rfl, rfl, ⟨rfl, hl⟩⟩ ?_)
 rintro mz af h ⟨i, gg, uu, tt, hi, rfl, rfl, rfl, he⟩
 refine AW.seq ?_
 by_cases hlt : i < kids.length
 ·obtain ⟨he, hle⟩ := he
  obtain ⟨x, hx⟩ := get_lt hlt
  have hx' : (kids.map GFml.av)[((i : Nat) : Int).toNat]? = some (x.st) := GFml.get hx
  rw [drop_cons hx, txK] at he hle
  have hsep : (bif (i == 0) then [] else bytesAV ⟨#[44, 32]⟩) = sepA i := rfl
  rw [hsep] at he hle
  simp only [lA] at hle
  repeat' (first | refine AW.re 1 1 ?_ | refine AW.jj (fun hb => ?_) (fun hb => ?_) | refine AW.go ?_ | fail)
  all_goals try (exfalso; simp only [dT, dF, lM] at *; omega)
  repeat' (first | (refine xS 2 1 ?_; refine AL.d (iX hx') ?_; refine AL.es 1 ?_; refine AL.alloc_new (by kernel_rfl) rfl fun b3 => ?_; refine AL.es 1 ?_; refine AL.store_new rfl rfl (by kernel_rfl) rfl rfl ?_; refine AL.nil ?_) | fail)
  refine AW.seq ?_
  refine AW.cut (fun af ah => ∃ g1 t1, af = [(1, .at (.ref b 0)), (3, .at x.st), (5, .sl (kids.map GFml.av)), (6, .int .i64 (kids.map GFml.av).length), (7, .int .i64 i)] ∧ ah = bldW b g1 (uu ++ sepA i) t1) ?_ ?_
  ·have hw := wsW b gg uu tt ⟨#[44, 32]⟩ (by show uu.length + 2 ≤ _; omega)
   repeat' (first | refine AW.re 3 2 ?_ | (refine xS 4 1 ?_; (refine AL.callQ rfl rfl hw rfl ?_ ?_; rotate_left; rintro _ _ ⟨⟨_, e⟩, _⟩; cases e; rintro _ _ ⟨⟨v, e⟩, g2, t2, rfl⟩; injection e with e; subst e) <;> refine AL.nil ?_) | refine AW.jj (fun hb => ?_) (fun hb => ?_) | refine AW.go ?_ | fail)
   ·have h0 : (i == 0) = false := by simp only [dT] at hb; simp; omega
    exact AW.meet [1, 3, 5, 6, 7] ⟨g2, t2, rfl, by rw [sepA, h0]; rfl⟩
   ·have h0 : (i == 0) = true := by simp only [dF] at hb; simp; omega
    exact AW.meet [1, 3, 5, 6, 7] ⟨gg, tt, rfl, by rw [sepA, h0, cond_true, List.append_nil]⟩
  rintro af ah ⟨g1, t1, rfl, rfl⟩
  have hc := ih x (lG hx) g1 (uu ++ sepA i) t1 (by simp only [lA]; omega)
  repeat' (first | (refine xS 5 2 ?_; (refine AL.callQ rfl rfl hc rfl ?_ ?_; rotate_left; rintro _ _ ⟨e, _⟩; cases e; rintro _ _ ⟨e, g2, t2, rfl⟩; injection e with e; subst e) <;> refine AL.nil ?_) | refine AW.go ?_ | fail)
  repeat' (first | (refine AW.r 6 ?_; refine AL.d AOp.ad ?_; refine xN 1 ?_) | fail)
  have hi1 : (i + 1 == 0) = false := by simp
  refine AW.again_keep (kids.length - (i + 1)) [1, 5, 6, 7] (by omega) ⟨i + 1, g2, uu ++ sepA i ++ txA x, t2, hlt, rfl, rfl, rfl, ?_⟩
  rw [hi1]
  exact ⟨by rw [he]; simp only [List.append_assoc], by simp only [lA]; omega⟩
 ·obtain ⟨he, hle⟩ := he
  rw [List.drop_eq_nil_of_le (by omega), txK] at he
  have hw := wbW b gg uu tt 41 (by omega)
  repeat' (first | refine AW.re 1 1 ?_ | refine AW.jj (fun hb => ?_) (fun hb => ?_) | refine AW.go ?_ | fail)
  all_goals try (exfalso; simp only [dT, dF, lM] at *; omega)
  repeat' (first | (refine xS 7 1 ?_; (refine AL.callQ rfl rfl hw rfl ?_ ?_; rotate_left; rintro _ _ ⟨⟨_, e⟩, _⟩; cases e; rintro _ _ ⟨⟨v, e⟩, g2, t2, rfl⟩; injection e with e; subst e) <;> refine AL.nil ?_) | fail)
  exact AW.donev rfl ⟨rfl, _, _, by rw [he, List.append_nil]⟩
theorem wOks_mem {l : List GFml} {x : GFml} (h : wOks l = true) (hx : x ∈ l) : wOk x = true := by
 induction l with
 | nil => cases hx
 | cons y l ih =>
  rw [wOks, bA] at h
  rcases List.mem_cons.1 hx with rfl | hx
  ·exact h.1
  ·exact ih h.2 hx
theorem wr_write : ∀ (N : Nat) (f : GFml) (b : Nat) (us : List AV) (h : AH), ndF f ≤ N → f.Ok → wOk f = true → ndF f ≤ 1000000 → BW b us h → us.length + (txA f).length ≤ 1000000 →
  Tri Tryz.prog 93 [.ref b 0, f.st] h (fun y h' => y = .ret (.tup []) ∧ ∃ g' tl', h' = bldW b g' (us ++ txA f) tl') := by
 intro N
 induction N using Nat.strongRecOn with
 | _ N ih =>
  intro f b us h hN ho hw hnm hB hlen
  have hnd := ndF_eq f
  have hkl := ndFs_len f.Kids
  obtain ⟨_, q6, q7⟩ := ho
  have hK := fun (hw : wOks f.Kids = true) x (hx : x ∈ f.Kids) g us tl hl => ih (ndF x) (by have := ndFs_mem hx; omega) x b us (bldW b g us tl) (Nat.le_refl _) (q7 x hx) (wOks_mem hw hx) (by have := ndFs_mem hx; omega) (.inr ⟨g, tl, rfl⟩) hl
  obtain ⟨k, ar, nm, vars, args, kids⟩ := f
  simp only at *
  rw [wOk] at hw
  simp only [bA, dT] at hw
  obtain ⟨⟨⟨⟨⟨⟨w1, w2⟩, w3⟩, w4⟩, w5⟩, w6⟩, w7⟩ := hw
  have hV := Join_str vars sp (by omega) (by omega)
  have hA := Join_str args sp (by omega) (by omega)
  have hC := fun g us tl hl => wr_kids k ar nm vars args kids b (by omega) (hK w7) g us tl hl
  rw [txA] at hlen ⊢
  have hk : k = 0 ∨ k = 3 ∨ (k = 5 ∧ 0 < kids.length) ∨ k = 7 := by
   simp only [Bool.or_eq_true, bA, beq_iff_eq, dT] at w6
   omega
  have z1 : (⟨#[40]⟩ : ByteArray).size = 1 := rfl
  have z2 : (⟨#[41]⟩ : ByteArray).size = 1 := rfl
  have z3 : (⟨#[97, 108, 108, 40]⟩ : ByteArray).size = 4 := rfl
  have z4 : (⟨#[58, 32]⟩ : ByteArray).size = 2 := rfl
  have z5 : (⟨#[110, 111, 116, 40]⟩ : ByteArray).size = 4 ∧ (⟨#[111, 114, 40]⟩ : ByteArray).size = 3 := ⟨rfl, rfl⟩
  generalize joinB vars sp = JV at *
  generalize joinB args sp = JA at *
  rcases hk with rfl | rfl | ⟨rfl, hpos⟩ | rfl
  ·have e0 : ((0 : Int) == 0) = true := rfl
   rw [e0, cond_true] at hlen ⊢
   generalize hhd : hdT 0 nm JV JA = hd at *
   have hd' : hd = nm ++ ⟨#[40]⟩ ++ JA ++ ⟨#[41]⟩ := by rw [← hhd]; rfl
   have hsz : 0 < hd.size ∧ hd.size ≤ 2000010 := by rw [hd']; simp only [ByteArray.size_append, z1, z2]; omega
   rw [bytesAV_length] at hlen
   have hw1 := ws_any b us h hd hB hsz.1 (by omega)
   rw [hd'] at hw1
   refine Tri.enter 153 Tryz.func93 rfl rfl rfl rfl fun Fr w0 => ?_
   repeat' (first | (refine AW.r 0 ?_; refine AL.d (AOp.box_ro (v := .ref b 0) rfl rfl) ?_; (refine AL.d (AOp.box_ro (v := .st [.int .i64 0, .int .i64 ar, .str nm, strs vars, strs args, .sl (kids.map GFml.av)]) rfl rfl) ?_) <;> refine AL.nil ?_) | refine AW.re 1 2 ?_ | (refine AW.dq 2 ?_; refine AQ.es 2 ?_; refine AQ.p rfl (AOp.call rfl rfl (hV.pure _)) ?_; refine AQ.es 2 ?_; refine AQ.p rfl (AOp.call rfl rfl (hA.pure _)) ?_; refine AQ.es 2 ?_; refine AQ.nil ?_) | refine AW.re 3 2 ?_ | refine AW.re 4 2 ?_ | (refine xS 5 3 ?_; ((refine AL.d (AOp.str_add rfl rfl (by simp only [ByteArray.size_append, z1, z2, z3, z4]; omega)) ?_)) <;> refine AL.es 1 ?_ <;> ((refine AL.d (AOp.str_add rfl rfl (by simp only [ByteArray.size_append, z1, z2, z3, z4]; omega)) ?_)) <;> ((refine AL.d (AOp.str_add rfl rfl (by simp only [ByteArray.size_append, z1, z2, z3, z4]; omega)) ?_)) <;> (((refine AL.callQ rfl rfl hw1 rfl ?_ ?_; rotate_left; rintro _ _ ⟨⟨_, e⟩, _⟩; cases e; rintro _ _ ⟨⟨v, e⟩, g1, t1, rfl⟩; injection e with e; subst e))) <;> refine AL.nil ?_) | refine AW.jt ?_ | refine AW.go ?_ | fail)
   exact AW.donev rfl ⟨rfl, _, _, by rw [hd']⟩
  ·have e0 : ((3 : Int) == 0) = false := rfl
   rw [e0, cond_false] at hlen ⊢
   generalize hhd : hdT 3 nm JV JA = hd at *
   have hd' : hd = ⟨#[110, 111, 116, 40]⟩ := by rw [← hhd]; rfl
   have hsz : 0 < hd.size ∧ hd.size ≤ 2000010 := by rw [hd']; simp only [ByteArray.size_append, z1, z2, z3, z4, z5]; omega
   simp only [lA, List.length_singleton, bytesAV_length] at hlen
   have hw1 := ws_any b us h hd hB hsz.1 (by omega)
   rw [hd'] at hw1
   refine Tri.enter 153 Tryz.func93 rfl rfl rfl rfl fun Fr w0 => ?_
   repeat' (first | (refine AW.r 0 ?_; refine AL.d (AOp.box_ro (v := .ref b 0) rfl rfl) ?_; (refine AL.d (AOp.box_ro (v := .st [.int .i64 3, .int .i64 ar, .str nm, strs vars, strs args, .sl (kids.map GFml.av)]) rfl rfl) ?_) <;> refine AL.nil ?_) | refine AW.re 1 2 ?_ | (refine AW.dq 2 ?_; refine AQ.es 2 ?_; refine AQ.p rfl (AOp.call rfl rfl (hV.pure _)) ?_; refine AQ.es 2 ?_; refine AQ.p rfl (AOp.call rfl rfl (hA.pure _)) ?_; refine AQ.es 2 ?_; refine AQ.nil ?_) | refine AW.re 3 2 ?_ | refine AW.re 4 2 ?_ | refine AW.re 6 2 ?_ | refine AW.re 8 2 ?_ | refine AW.re 10 2 ?_ | (refine xS 11 1 ?_; (((refine AL.callQ rfl rfl hw1 rfl ?_ ?_; rotate_left; rintro _ _ ⟨⟨_, e⟩, _⟩; cases e; rintro _ _ ⟨⟨v, e⟩, g1, t1, rfl⟩; injection e with e; subst e))) <;> refine AL.nil ?_) | refine AW.jt ?_ | refine AW.jf ?_ | fail)
   rw [← hd']
   have hc := hC g1 (us ++ bytesAV hd) t1 (by simp only [lA, bytesAV_length]; omega)
   repeat' (first | (refine xS 12 1 ?_; (refine AL.callQ rfl rfl hc rfl ?_ ?_; rotate_left; rintro _ _ ⟨e, _⟩; cases e; rintro _ _ ⟨e, g2, t2, rfl⟩; injection e with e; subst e) <;> refine AL.nil ?_) | refine AW.go ?_ | fail)
   exact AW.donev rfl ⟨rfl, g2, t2, by simp only [List.append_assoc]⟩
  ·have e0 : ((5 : Int) == 0) = false := rfl
   rw [e0, cond_false] at hlen ⊢
   generalize hhd : hdT 5 nm JV JA = hd at *
   have hd' : hd = ⟨#[111, 114, 40]⟩ := by rw [← hhd]; rfl
   have hsz : 0 < hd.size ∧ hd.size ≤ 2000010 := by rw [hd']; simp only [ByteArray.size_append, z1, z2, z3, z4, z5]; omega
   simp only [lA, List.length_singleton, bytesAV_length] at hlen
   have hw1 := ws_any b us h hd hB hsz.1 (by omega)
   rw [hd'] at hw1
   refine Tri.enter 153 Tryz.func93 rfl rfl rfl rfl fun Fr w0 => ?_
   repeat' (first | (refine AW.r 0 ?_; refine AL.d (AOp.box_ro (v := .ref b 0) rfl rfl) ?_; (refine AL.d (AOp.box_ro (v := .st [.int .i64 5, .int .i64 ar, .str nm, strs vars, strs args, .sl (kids.map GFml.av)]) rfl rfl) ?_) <;> refine AL.nil ?_) | refine AW.re 1 2 ?_ | (refine AW.dq 2 ?_; refine AQ.es 2 ?_; refine AQ.p rfl (AOp.call rfl rfl (hV.pure _)) ?_; refine AQ.es 2 ?_; refine AQ.p rfl (AOp.call rfl rfl (hA.pure _)) ?_; refine AQ.es 2 ?_; refine AQ.nil ?_) | refine AW.re 3 2 ?_ | refine AW.re 4 2 ?_ | refine AW.re 6 2 ?_ | refine AW.re 8 2 ?_ | refine AW.re 10 2 ?_ | refine AW.re 13 2 ?_ | refine AW.re 14 2 ?_ | (refine AW.r 15 ?_; refine AL.d (AOp.buildA (z := .st [.str empB, .str empB]) (n := 2) (sz := 1) (zc := [.string ⟨#[]⟩, .string ⟨#[]⟩]) (by kernel_rfl) rfl rfl rfl) ?_; refine AL.d (AOp.buildA (z := .st [.str empB, .str empB]) (n := 2) (sz := 1) (zc := [.string ⟨#[]⟩, .string ⟨#[]⟩]) (by kernel_rfl) rfl rfl rfl) ?_; refine AL.d (AOp.buildA (z := .st [.st [.str empB, .str empB], .st [.str empB, .str empB]]) (n := 2) (sz := 2) (zc := [.string ⟨#[]⟩, .string ⟨#[]⟩, .string ⟨#[]⟩, .string ⟨#[]⟩]) (by kernel_rfl) rfl rfl rfl) ?_; refine AL.es 2 ?_; refine AL.d AOp.sb ?_; refine AL.d (AOp.index_arrA (n := 2) (e := 179) rfl rfl (by omega) (by omega) rfl (by kernel_rfl) (by kernel_rfl) rfl) ?_; refine AL.alloc_store (by kernel_rfl) rfl rfl rfl rfl ?_; refine AL.nil ?_) | refine AW.re 16 4 ?_ | refine AW.jt ?_ | refine AW.jf ?_ | refine AW.jj (fun hb => ?_) (fun hb => ?_) | refine AW.go ?_ | fail)
   all_goals try (exfalso; simp only [lM, beq_iff_eq] at hb; omega)
   repeat' (first | (refine xS 18 1 ?_; refine AL.d (AOp.index_at (n := 2) (sz := 1) (zc := [.string ⟨#[]⟩, .string ⟨#[]⟩]) rfl rfl (by omega) (by omega) rfl (by kernel_rfl) rfl) ?_; refine AL.es 1 ?_; (((refine AL.callQ rfl rfl hw1 rfl ?_ ?_; rotate_left; rintro _ _ ⟨⟨_, e⟩, _⟩; cases e; rintro _ _ ⟨⟨v, e⟩, g1, t1, rfl⟩; injection e with e; subst e))) <;> refine AL.nil ?_) | fail)
   rw [← hd']
   have hc := hC g1 (us ++ bytesAV hd) t1 (by simp only [lA, bytesAV_length]; omega)
   repeat' (first | (refine xS 19 1 ?_; (refine AL.callQ rfl rfl hc rfl ?_ ?_; rotate_left; rintro _ _ ⟨e, _⟩; cases e; rintro _ _ ⟨e, g2, t2, rfl⟩; injection e with e; subst e) <;> refine AL.nil ?_) | refine AW.go ?_ | fail)
   exact AW.donev rfl ⟨rfl, g2, t2, by simp only [List.append_assoc]⟩
  ·have e0 : ((7 : Int) == 0) = false := rfl
   rw [e0, cond_false] at hlen ⊢
   generalize hhd : hdT 7 nm JV JA = hd at *
   have hd' : hd = ⟨#[97, 108, 108, 40]⟩ ++ JV ++ ⟨#[58, 32]⟩ := by rw [← hhd]; rfl
   have hsz : 0 < hd.size ∧ hd.size ≤ 2000010 := by rw [hd']; simp only [ByteArray.size_append, z1, z2, z3, z4, z5]; omega
   simp only [lA, List.length_singleton, bytesAV_length] at hlen
   have hw1 := ws_any b us h hd hB hsz.1 (by omega)
   rw [hd'] at hw1
   refine Tri.enter 153 Tryz.func93 rfl rfl rfl rfl fun Fr w0 => ?_
   repeat' (first | (refine AW.r 0 ?_; refine AL.d (AOp.box_ro (v := .ref b 0) rfl rfl) ?_; (refine AL.d (AOp.box_ro (v := .st [.int .i64 7, .int .i64 ar, .str nm, strs vars, strs args, .sl (kids.map GFml.av)]) rfl rfl) ?_) <;> refine AL.nil ?_) | refine AW.re 1 2 ?_ | (refine AW.dq 2 ?_; refine AQ.es 2 ?_; refine AQ.p rfl (AOp.call rfl rfl (hV.pure _)) ?_; refine AQ.es 2 ?_; refine AQ.p rfl (AOp.call rfl rfl (hA.pure _)) ?_; refine AQ.es 2 ?_; refine AQ.nil ?_) | refine AW.re 3 2 ?_ | refine AW.re 4 2 ?_ | refine AW.re 6 2 ?_ | refine AW.re 8 2 ?_ | refine AW.re 10 2 ?_ | refine AW.re 13 2 ?_ | refine AW.re 14 2 ?_ | refine AW.re 20 2 ?_ | refine AW.re 21 2 ?_ | (refine AW.dl 22 9 ?_; refine AQ.es 1 ?_; refine AQ.p rfl (AOp.buildA (z := .st [.str empB, .str empB]) (n := 2) (sz := 1) (zc := [.string ⟨#[]⟩, .string ⟨#[]⟩]) (by kernel_rfl) rfl rfl rfl) ?_; refine AQ.es 2 ?_; refine AQ.p rfl AOp.sb ?_; refine AQ.p rfl (AOp.index_arr (n := 2) (e := 9) rfl rfl (by omega) (by omega) rfl (by kernel_rfl) (by kernel_rfl) rfl) ?_; refine AQ.es 1 ?_; ((refine AQ.p rfl (AOp.str_add rfl rfl (by simp only [ByteArray.size_append, z1, z2, z3, z4]; omega)) ?_)) <;> ((refine AQ.p rfl (AOp.str_add rfl rfl (by simp only [ByteArray.size_append, z1, z2, z3, z4]; omega)) ?_)) <;> refine AQ.nil ?_ <;> (((refine AL.callQ rfl rfl hw1 rfl ?_ ?_; rotate_left; rintro _ _ ⟨⟨_, e⟩, _⟩; cases e; rintro _ _ ⟨⟨v, e⟩, g1, t1, rfl⟩; injection e with e; subst e))) <;> refine AL.nil ?_) | refine AW.jt ?_ | refine AW.jf ?_ | fail)
   rw [← hd']
   have hc := hC g1 (us ++ bytesAV hd) t1 (by simp only [lA, bytesAV_length]; omega)
   repeat' (first | (refine xS 23 1 ?_; (refine AL.callQ rfl rfl hc rfl ?_ ?_; rotate_left; rintro _ _ ⟨e, _⟩; cases e; rintro _ _ ⟨e, g2, t2, rfl⟩; injection e with e; subst e) <;> refine AL.nil ?_) | refine AW.go ?_ | fail)
   exact AW.donev rfl ⟨rfl, g2, t2, by simp only [List.append_assoc]⟩
theorem f_Text (f : GFml) (ho : f.Ok) (hv : validF f = true) (hw : wOk f = true) (hn : ndF f ≤ 1000000) (l : List UInt8) (hl : txA f = bytesAV ⟨l.toArray⟩) (h0 : l ≠ []) (h4 : l.length ≤ 40000) :
  Tri Tryz.prog 49 [f.st] [] (D (.tup [.str ⟨l.toArray⟩, .int .i64 0]) []) := by
 have hV := f_Valid f ho
 have hbl : (bytesAV ⟨l.toArray⟩).length = l.length := by rw [bytesAV_length]; simp [ByteArray.size]
 have hW := fun b => wr_write _ f b [] (bld0 b) (Nat.le_refl _) ho hw hn (.inl ⟨rfl, rfl⟩) (by rw [hl, hbl]; simp; omega)
 rw [hl, List.nil_append] at hW
 rw [hv] at hV
 clear hl hv hw hn
 obtain ⟨k, ar, nm, vars, args, kids⟩ := f
 refine Tri.enter 13 Tryz.func49 rfl rfl rfl rfl fun Fr w0 => ?_
 repeat' (first | (refine AW.r 0 ?_; (refine AL.d (AOp.box_ro (v := .st [.int .i64 k, .int .i64 ar, .str nm, strs vars, strs args, .sl (kids.map GFml.av)]) rfl rfl) ?_) <;> refine AL.es 2 ?_ <;> refine AL.nil ?_) | (refine xS 1 1 ?_; refine AL.d (AOp.call rfl rfl (hV.pure _)) ?_; refine xN 1 ?_) | refine AW.jf ?_ | refine AW.go ?_ | fail)
 repeat' (first | (refine AW.r 3 ?_; refine AL.alloc_t [.val (.pointer none), nilS] (by kernel_rfl) rfl (by simp [AV.size, nilS]; exact ⟨rfl, rfl⟩) rfl fun b => ?_ <;> refine AL.nil ?_) | refine AW.go ?_ | fail)
 have hw := hW b
 repeat' (first | (refine xS 4 1 ?_; (refine AL.callQ rfl rfl hw rfl ?_ ?_; rotate_left; rintro _ _ ⟨e, _⟩; cases e; rintro _ _ ⟨e, g, t, rfl⟩; injection e with e; subst e) <;> refine AL.nil ?_) | refine AW.go ?_ | fail)
 have hL := lenW b g (bytesAV ⟨l.toArray⟩) t
 rw [hbl] at hL
 have hS := strW b g l t h0 (by omega)
 repeat' (first | (refine AW.r 5 ?_; refine AL.d (AOp.call rfl rfl hL) ?_; refine xN 1 ?_) | (refine AW.r 7 ?_; refine AL.d (AOp.call rfl rfl hS) ?_; refine xN 2 ?_) | refine AW.jj (fun hb => ?_) (fun hb => ?_) | refine AW.go ?_ | fail)
 ·exfalso; simp only [dT] at hb; omega
 exact AW.retv rfl ⟨rfl, rfl⟩
def bsx : ByteArray := ⟨#[120]⟩
def bsy : ByteArray := ⟨#[121]⟩
def alF : GFml := ⟨3, 0, empB, [], [], [⟨6, 0, empB, [bsx], [], [⟨4, 0, empB, [], [], [⟨0, 0, ⟨#[69]⟩, [], [bsx, bsy], []⟩, ⟨3, 0, empB, [], [], [⟨0, 0, ⟨#[80]⟩, [], [bsx], []⟩]⟩]⟩]⟩]⟩
def alG : GFml := ⟨7, 0, empB, [bsx], [], [⟨5, 0, empB, [], [], [⟨3, 0, empB, [], [], [⟨0, 0, ⟨#[69]⟩, [], [bsx, bsy], []⟩]⟩, ⟨0, 0, ⟨#[80]⟩, [], [bsx], []⟩]⟩]⟩
def alT : List UInt8 := [97, 108, 108, 40, 120, 58, 32, 111, 114, 40, 110, 111, 116, 40, 69, 40, 120, 32, 121, 41, 41, 44, 32, 80, 40, 120, 41, 41, 41]
theorem al_valid : validF alF = true := by kernel_rfl
theorem al_validG : validF alG = true := by kernel_rfl
theorem al_nnf : nnF alF false = alG := rfl
theorem al_tx : txA alG = bytesAV ⟨alT.toArray⟩ := by kernel_rfl
theorem al_w : wOk alG = true := by kernel_rfl
theorem al_ok : alF.Ok := by
 have hl : ∀ (l : List ByteArray), l.length ≤ 2 → (∀ s ∈ l, s.size ≤ 2) → lenOk 16 strOk l := fun l h1 h2 => ⟨by omega, fun s hs => by have := h2 s hs; show s.size ≤ _; omega⟩
 have hs : ∀ (s : ByteArray), s.size ≤ 2 → strOk s := fun s h => by show s.size ≤ _; omega
 have hb : ∀ s ∈ ([bsx, bsy] : List ByteArray), s.size ≤ 2 := by intro s h; simp at h; rcases h with rfl | rfl <;> decide
 have hb1 : ∀ s ∈ ([bsx] : List ByteArray), s.size ≤ 2 := by intro s h; simp at h; subst h; decide
 have hb0 : ∀ s ∈ ([] : List ByteArray), s.size ≤ 2 := by intro s h; cases h
 refine .mk ⟨rfl, rfl, hs _ (by decide), hl _ (by decide) hb0, hl _ (by decide) hb0⟩ (by decide) fun x hx => ?_
 obtain rfl := List.mem_singleton.1 hx
 refine .mk ⟨rfl, rfl, hs _ (by decide), hl _ (by decide) hb1, hl _ (by decide) hb0⟩ (by decide) fun x hx => ?_
 obtain rfl := List.mem_singleton.1 hx
 refine .mk ⟨rfl, rfl, hs _ (by decide), hl _ (by decide) hb0, hl _ (by decide) hb0⟩ (by decide) fun x hx => ?_
 rcases List.mem_cons.1 hx with rfl | hx
 ·exact .mk ⟨rfl, rfl, hs _ (by decide), hl _ (by decide) hb0, hl _ (by decide) hb⟩ (by decide) fun x hx => by cases hx
 obtain rfl := List.mem_singleton.1 hx
 refine .mk ⟨rfl, rfl, hs _ (by decide), hl _ (by decide) hb0, hl _ (by decide) hb0⟩ (by decide) fun x hx => ?_
 obtain rfl := List.mem_singleton.1 hx
 exact .mk ⟨rfl, rfl, hs _ (by decide), hl _ (by decide) hb0, hl _ (by decide) hb1⟩ (by decide) fun x hx => by cases hx
theorem P_cons {P : AV → Prop} {y : AV} {l : List AV} (h : P y) (k : ∀ x ∈ l, P x) : ∀ x ∈ y :: l, P x := fun x hx => (List.mem_cons.1 hx).elim (fun e => e ▸ h) (k x)
theorem alive : Tri Tryz.prog 12 [] [] (D (.bool true) []) := by
 have hN := n_Nnf alF al_ok
 have hn : nnfP alF = (alG, 0) := by rw [nnfP, al_valid, cond_true, al_nnf, fitF, al_validG, cond_true]
 rw [hn] at hN
 have hT := f_Text alG (by rw [← al_nnf]; exact nn_ok _ _ al_ok) al_validG al_w (by decide) alT al_tx (by decide) (by decide)
 refine Tri.enter 37 Tryz.func12 rfl rfl rfl rfl fun Fr w0 => ?_
 repeat' (first | refine AW.re 0 1 ?_ | (refine AW.r 1 ?_; (refine AL.d (AOp.lit (t := 22) (e := 9) (sz := 1) (by kernel_rfl) rfl rfl rfl (by repeat' first | exact P_nil | refine P_cons rfl ?_) (by decide)) ?_) <;> (refine AL.d (AOp.lit (t := 22) (e := 9) (sz := 1) (by kernel_rfl) rfl rfl rfl (by repeat' first | exact P_nil | refine P_cons rfl ?_) (by decide)) ?_) <;> refine AL.d (AOp.build (pl := [(0, 1), (1, 1), (2, 1), (3, 1), (4, 1), (5, 1)]) (z := .st [.int .i64 0, .int .i64 0, .str ⟨#[]⟩, .sl [], .sl [], .sl []]) (by kernel_rfl) rfl rfl rfl) ?_ <;> (refine AL.d (AOp.lit (t := 22) (e := 9) (sz := 1) (by kernel_rfl) rfl rfl rfl (by repeat' first | exact P_nil | refine P_cons rfl ?_) (by decide)) ?_) <;> refine AL.d (AOp.build (pl := [(0, 1), (1, 1), (2, 1), (3, 1), (4, 1), (5, 1)]) (z := .st [.int .i64 0, .int .i64 0, .str ⟨#[]⟩, .sl [], .sl [], .sl []]) (by kernel_rfl) rfl rfl rfl) ?_ <;> (refine AL.d (AOp.lit (t := 23) (e := 25) (sz := 6) (by kernel_rfl) rfl rfl rfl (by repeat' first | exact P_nil | refine P_cons rfl ?_) (by decide)) ?_) <;> refine AL.d (AOp.build (pl := [(0, 1), (1, 1), (2, 1), (3, 1), (4, 1), (5, 1)]) (z := .st [.int .i64 0, .int .i64 0, .str ⟨#[]⟩, .sl [], .sl [], .sl []]) (by kernel_rfl) rfl rfl rfl) ?_ <;> (refine AL.d (AOp.lit (t := 23) (e := 25) (sz := 6) (by kernel_rfl) rfl rfl rfl (by repeat' first | exact P_nil | refine P_cons rfl ?_) (by decide)) ?_) <;> refine AL.d (AOp.build (pl := [(0, 1), (1, 1), (2, 1), (3, 1), (4, 1), (5, 1)]) (z := .st [.int .i64 0, .int .i64 0, .str ⟨#[]⟩, .sl [], .sl [], .sl []]) (by kernel_rfl) rfl rfl rfl) ?_ <;> (refine AL.d (AOp.lit (t := 23) (e := 25) (sz := 6) (by kernel_rfl) rfl rfl rfl (by repeat' first | exact P_nil | refine P_cons rfl ?_) (by decide)) ?_) <;> refine AL.d (AOp.build (pl := [(0, 1), (1, 1), (2, 1), (3, 1), (4, 1), (5, 1)]) (z := .st [.int .i64 0, .int .i64 0, .str ⟨#[]⟩, .sl [], .sl [], .sl []]) (by kernel_rfl) rfl rfl rfl) ?_ <;> (refine AL.d (AOp.lit (t := 23) (e := 25) (sz := 6) (by kernel_rfl) rfl rfl rfl (by repeat' first | exact P_nil | refine P_cons rfl ?_) (by decide)) ?_) <;> refine AL.d (AOp.build (pl := [(0, 1), (1, 1), (2, 1), (3, 1), (4, 1), (5, 1)]) (z := .st [.int .i64 0, .int .i64 0, .str ⟨#[]⟩, .sl [], .sl [], .sl []]) (by kernel_rfl) rfl rfl rfl) ?_ <;> refine AL.d (AOp.call rfl rfl hN) ?_ <;> refine AL.es 3 ?_ <;> refine AL.alloc_store (by kernel_rfl) rfl rfl rfl rfl ?_ <;> refine AL.es 1 ?_ <;> refine AL.nil ?_) | refine AW.go ?_ | fail)
 repeat' (first | (refine xS 2 1 ?_; refine AL.d (AOp.call rfl rfl hT) ?_; refine xN 5 ?_) | (refine xS 3 3 ?_; refine AL.es 4 ?_; refine xN 4 ?_) | fail)
 exact AW.retv rfl ⟨retB (by rw [toList_beq]; exact (decide_eq_true rfl).symm), rfl⟩
theorem few_one (most : Int) (hm : 0 ≤ most ∧ most ≤ 1000000) (f : GFml) (ho : f.Ok) : Tri Tryz.prog 9 [.int .i64 most, .sl [f.st]] [] (D (.bool (decide (wFs most [f] 0 ≤ most))) []) := by
 have h := law_Few most hm [f] (by simp) (by intro x hx; rw [List.mem_singleton.1 hx]; exact ho)
 rw [List.map_cons, List.map_nil, GFml.av_eq] at h
 exact h
theorem rules_v1 (k : Int) : (rulesP k).v1 ≤ 24 := by
 unfold rulesP
 repeat' split
 all_goals decide
theorem shaped_vars {f : GFml} (h : shapedP f = true) : f.Vars.length ≤ 24 := by
 simp only [shapedP, shp3, bA, dT] at h
 have h1 := h.2.1.2.1.2
 have h2 := rules_v1 f.Kind
 omega
theorem rules_a1 (k : Int) : (rulesP k).a1 ≤ 24 := by
 unfold rulesP
 repeat' split
 all_goals decide
theorem shaped_args {f : GFml} (h : shapedP f = true) : f.Args.length ≤ 24 := by
 simp only [shapedP, shp3, bA, dT] at h
 have h1 := h.2.1.1.1.2
 have h2 := rules_a1 f.Kind
 omega
theorem varOk_of (f : GFml) : shsF f = true → VarOk f := by
 generalize hN : ndF f = N
 induction N using Nat.strongRecOn generalizing f with
 | _ N ih =>
  intro h
  have hnd := ndF_eq f
  rw [shsF_eq, bA] at h
  exact .mk (by have := shaped_vars h.2; omega) fun x hx => ih (ndF x) (by have := ndFs_mem hx; omega) x rfl (shsFs_mem h.1 hx)
theorem n_Rank (f : GFml) (ho : f.Ok) (hn : ndF f ≤ 1000000) : Tri Tryz.prog 19 [f.st] [] (D (.tup [.int .i64 (bif validF f then rkF f else 0), .int .i64 (bif validF f then 0 else 1)]) []) := by
 have hv := f_Valid f ho
 have hR := fun h => n_rank _ f (Nat.le_refl _) ho (varOk_of f (validF_shs h)) hn
 generalize validF f = V at *
 obtain ⟨k, ar, nm, vars, args, kids⟩ := f
 cases V with
 | true =>
  have hR' := hR rfl
  rw [cond_true, cond_true]
  refine Tri.enter 9 Tryz.func19 rfl rfl rfl rfl fun Fr w0 => ?_
  repeat' (first | (refine AW.r 0 ?_; (refine AL.d (AOp.box_ro (v := .st [.int .i64 k, .int .i64 ar, .str nm, strs vars, strs args, .sl (kids.map GFml.av)]) rfl rfl) ?_) <;> refine AL.es 2 ?_ <;> refine AL.nil ?_) | (refine xS 1 1 ?_; refine AL.d (AOp.call rfl rfl hv) ?_; refine xN 1 ?_) | (refine xS 3 1 ?_; refine AL.d (AOp.call rfl rfl hR') ?_; refine xN 2 ?_) | refine AW.jf ?_ | fail)
  exact AW.retv rfl ⟨rfl, rfl⟩
 | false =>
  rw [cond_false, cond_false]
  refine Tri.enter 9 Tryz.func19 rfl rfl rfl rfl fun Fr w0 => ?_
  repeat' (first | (refine AW.r 0 ?_; (refine AL.d (AOp.box_ro (v := .st [.int .i64 k, .int .i64 ar, .str nm, strs vars, strs args, .sl (kids.map GFml.av)]) rfl rfl) ?_) <;> refine AL.es 2 ?_ <;> refine AL.nil ?_) | (refine xS 1 1 ?_; refine AL.d (AOp.call rfl rfl hv) ?_; refine xN 1 ?_) | refine AW.re 2 2 ?_ | refine AW.jt ?_ | fail)
  exact AW.retv rfl ⟨rfl, rfl⟩
def addV (out : List ByteArray) (v : ByteArray) : List ByteArray := if (out.any fun x => decide (x = v)) = true then out else out ++ [v]
def addVs : List ByteArray → List ByteArray → List ByteArray
 | [], out => out
 | v :: l, out => addVs l (addV out v)
mutual
def vrF : GFml → List ByteArray → List ByteArray
 | ⟨_, _, _, vars, args, kids⟩, out => vrL kids (addVs args (addVs vars out))
def vrL : List GFml → List ByteArray → List ByteArray
 | [], out => out
 | x :: l, out => vrL l (vrF x out)
end
theorem addVs_app : ∀ (a b out : List ByteArray), addVs (a ++ b) out = addVs b (addVs a out)
 | [], b, out => rfl
 | v :: a, b, out => by rw [List.cons_append, addVs, addVs, addVs_app a b]
theorem addV_len (out : List ByteArray) (v : ByteArray) : (addV out v).length ≤ out.length + 1 := by
 unfold addV; split <;> simp
theorem addVs_len : ∀ (l out : List ByteArray), (addVs l out).length ≤ out.length + l.length
 | [], out => by simp [addVs]
 | v :: l, out => by
  have h1 := addV_len out v
  have h2 := addVs_len l (addV out v)
  rw [addVs, List.length_cons]; omega
mutual
theorem vrF_len : ∀ (f : GFml) (out : List ByteArray), shsF f = true → (vrF f out).length ≤ out.length + 48 * ndF f
 | ⟨k, ar, nm, vars, args, kids⟩, out, h => by
  rw [shsF, bA] at h
  have h1 := shaped_vars h.2
  have h2 := shaped_args h.2
  have h3 := addVs_len vars out
  have h4 := addVs_len args (addVs vars out)
  have h5 := vrL_len kids (addVs args (addVs vars out)) h.1
  simp only at h1 h2
  rw [vrF, ndF]; omega
theorem vrL_len : ∀ (l : List GFml) (out : List ByteArray), shsFs l = true → (vrL l out).length ≤ out.length + 48 * ndFs l
 | [], out, h => by rw [vrL, ndFs]; omega
 | x :: l, out, h => by
  rw [shsFs, bA] at h
  have h1 := vrF_len x out h.1
  have h2 := vrL_len l (vrF x out) h.2
  rw [vrL, ndFs]; omega
end
def bmap (out : List ByteArray) : List (ByteArray × Bool) := out.map fun s => (s, true)
theorem setA_bmap (v : ByteArray) : ∀ out : List ByteArray, setA (bmap out) v true = bmap (addV out v)
 | [] => rfl
 | s :: out => by
  have ih := setA_bmap v out
  simp only [bmap, List.map_cons, setA] at ih ⊢
  unfold addV at ih ⊢
  by_cases e : v = s
  ·subst e; simp
  ·rw [if_neg e, ih, List.any_cons, decide_eq_false (fun h => e h.symm), Bool.false_or]
   split <;> simp
theorem n_vars : ∀ (N : Nat) (f : GFml) (out : List ByteArray) (mb : Nat) (g : MG), ndF f ≤ N → f.Ok →
  Tri Tryz.prog 60 [f.st, .map mb] [.map mb (kvW bav (bmap out)) g] (fun x h => x = .ret (.tup []) ∧ ∃ g', h = [.map mb (kvW bav (bmap (vrF f out))) g']) := by
 intro N
 induction N using Nat.strongRecOn with
 | _ N ih =>
  intro f out mb g hN ho
  have hnd := ndF_eq f
  obtain ⟨⟨_, _, _, q4, q5⟩, q6, q7⟩ := ho
  have l4 := q4.1
  have l5 := q5.1
  obtain ⟨k, ar, nm, vars, args, kids⟩ := f
  rw [vrF]
  simp only at *
  refine Tri.enter 41 Tryz.func60 rfl rfl rfl rfl fun Fr w0 => ?_
  repeat' (first | (refine AW.r 0 ?_; (refine AL.d (AOp.box_ro (v := .st [.int .i64 k, .int .i64 ar, .str nm, strs vars, strs args, .sl (kids.map GFml.av)]) rfl rfl) ?_) <;> refine AL.nil ?_) | (refine xS 1 4 ?_; refine AL.d (AOp.lit (t := 143) (e := 22) (sz := 1) (by kernel_rfl) rfl rfl rfl (by simp [AV.size, strs]) (by decide)) ?_; refine xN 2 ?_) | refine AW.go ?_ | fail)
  refine AW.prune [1, 2, 14, 15, 16] (AW.loop (fun mz af h => ∃ (i : Nat) (o : List ByteArray) (gg : MG), i ≤ 2 ∧ mz = 2 - i ∧ af = [(1, .map mb), (2, .at (.st [.int .i64 k, .int .i64 ar, .str nm, strs vars, strs args, .sl (kids.map GFml.av)])), (14, .sl ([vars, args].map strs)), (15, .int .i64 ([vars, args].map strs).length), (16, .int .i64 i)] ∧ h = [.map mb (kvW bav (bmap o)) gg] ∧ addVs args (addVs vars out) = ([vars, args].drop i).foldl (fun o l => addVs l o) o) 2 ⟨0, out, g, Nat.zero_le _, rfl, rfl, rfl, rfl⟩ ?_)
  rintro mz af h ⟨i, o, gg, hi, rfl, rfl, rfl, he⟩
  refine AW.seq ?_
  by_cases hlt : i < 2
  ·obtain ⟨l, hl⟩ : ∃ l, [vars, args][i]? = some l := get_lt (by simpa using hlt)
   have hl' : ([vars, args].map strs)[((i : Nat) : Int).toNat]? = some (strs l) := map_get hl
   have hll : l.length ≤ 8796093022208 := by
    have := lG hl
    simp only [List.mem_cons, List.not_mem_nil, or_false] at this
    rcases this with rfl | rfl <;> omega
   rw [drop_cons hl, List.foldl_cons] at he
   obtain ⟨I0, hI0⟩ : ∃ j : Nat, j = i := ⟨i, rfl⟩
   subst hI0
   have hlt0 := hlt
   have he0 := he
   repeat' (first | refine AW.re 2 1 ?_ | refine AW.jj (fun hb => ?_) (fun hb => ?_) | refine AW.go ?_ | fail)
   all_goals try (exfalso; simp only [dT, dF, lM, List.length_cons, List.length_nil] at *; omega)
   repeat' (first | (refine AW.r 3 ?_; refine AL.d (iX hl') ?_; refine xN 2 ?_) | refine AW.re 4 3 ?_ | refine AW.go ?_ | fail)
   refine AW.prune [1, 2, 14, 15, 16, 20, 21, 22] (AW.loop (fun mz af h => ∃ (i : Nat) (o2 : List ByteArray) (g2 : MG), i ≤ l.length ∧ mz = l.length - i ∧ af = [(1, .map mb), (2, .at (.st [.int .i64 k, .int .i64 ar, .str nm, strs vars, strs args, .sl (kids.map GFml.av)])), (14, .sl ([vars, args].map strs)), (15, .int .i64 ([vars, args].map strs).length), (16, .int .i64 I0), (20, strs l), (21, .int .i64 (l.map AV.str).length), (22, .int .i64 i)] ∧ h = [.map mb (kvW bav (bmap o2)) g2] ∧ addVs l o = addVs (l.drop i) o2) l.length ⟨0, o, gg, Nat.zero_le _, rfl, rfl, rfl, rfl⟩ ?_)
   rintro mz af h ⟨i, o2, g2, hi, rfl, rfl, rfl, he⟩
   refine AW.seq ?_
   by_cases hlt : i < l.length
   ·obtain ⟨x, hx⟩ := get_lt hlt
    have hx' : (l.map AV.str)[((i : Nat) : Int).toNat]? = some (.str x) := map_get hx
    rw [drop_cons hx, addVs] at he
    repeat' (first | refine AW.re 5 1 ?_ | (refine AW.r 6 ?_; refine AL.d (iX hx') ?_; refine xN 2 ?_) | (refine xS 7 2 ?_; refine AL.setS 0 4 bav true rfl rfl rfl rfl (by kernel_rfl) ?_; refine AL.nil ?_) | (refine AW.r 8 ?_; refine AL.d AOp.ad ?_; refine xN 1 ?_) | refine AW.jj (fun hb => ?_) (fun hb => ?_) | refine AW.go ?_ | fail)
    all_goals try (exfalso; simp only [dT, dF, lM] at *; omega)
    rw [setA_bmap]
    refine AW.again_keep (l.length - (i + 1)) [1, 2, 14, 15, 16, 20, 21, 22] (by omega) ⟨i + 1, addV o2 x, _, hlt, rfl, rfl, rfl, ?_⟩
    exact he
   ·rw [List.drop_eq_nil_of_le (by omega), addVs] at he
    repeat' (first | refine AW.re 5 1 ?_ | (refine AW.r 9 ?_; refine AL.d AOp.ad ?_; refine xN 1 ?_) | refine AW.jj (fun hb => ?_) (fun hb => ?_) | refine AW.go ?_ | fail)
    all_goals try (exfalso; simp only [dT, dF, lM] at *; omega)
    rw [he] at he0
    exact AW.again_keep (2 - (I0 + 1)) [1, 2, 14, 15, 16] (by omega) ⟨I0 + 1, o2, g2, hlt0, rfl, rfl, rfl, he0⟩
  ·have hi2 : i = 2 := by omega
   subst hi2
   have he : addVs args (addVs vars out) = o := he
   rw [he]
   clear hlt hi
   repeat' (first | refine AW.re 2 1 ?_ | refine AW.jf ?_ | refine AW.go ?_ | fail)
   all_goals try (exfalso; simp only [dT, dF, lM, List.length_cons, List.length_nil] at *; omega)
   repeat' (first | refine AW.re 10 4 ?_ | refine AW.go ?_ | fail)
   refine AW.prune [1, 31, 32, 33] (AW.loop (fun mz af h => ∃ (i : Nat) (o2 : List ByteArray) (g2 : MG), i ≤ kids.length ∧ mz = kids.length - i ∧ af = [(1, .map mb), (31, .sl (kids.map GFml.av)), (32, .int .i64 (kids.map GFml.av).length), (33, .int .i64 i)] ∧ h = [.map mb (kvW bav (bmap o2)) g2] ∧ vrL kids o = vrL (kids.drop i) o2) kids.length ⟨0, o, gg, Nat.zero_le _, rfl, rfl, rfl, rfl⟩ ?_)
   rintro mz af h ⟨i, o2, g2, hi, rfl, rfl, rfl, he⟩
   refine AW.seq ?_
   by_cases hlt : i < kids.length
   ·obtain ⟨x, hx⟩ := get_lt hlt
    have hx' : (kids.map GFml.av)[((i : Nat) : Int).toNat]? = some (x.st) := GFml.get hx
    have hxm := lG hx
    have hnx := ndFs_mem hxm
    have hc := ih (ndF x) (by omega) x o2 mb g2 (Nat.le_refl _) (q7 x hxm)
    rw [drop_cons hx, vrL] at he
    repeat' (first | refine AW.re 11 1 ?_ | (refine AW.r 12 ?_; refine AL.d (iX hx') ?_; refine AL.es 1 ?_; refine AL.alloc_store (by kernel_rfl) rfl rfl rfl rfl ?_; refine AL.nil ?_) | refine AW.jj (fun hb => ?_) (fun hb => ?_) | refine AW.go ?_ | fail)
    all_goals try (exfalso; simp only [dT, dF, lM] at *; omega)
    repeat' (first | (refine xS 13 2 ?_; (refine AL.callQ rfl rfl hc rfl ?_ ?_; rotate_left; rintro _ _ ⟨e, _⟩; cases e; rintro _ _ ⟨e, g3, rfl⟩; injection e with e; subst e) <;> refine AL.nil ?_) | refine AW.go ?_ | fail)
    repeat' (first | (refine AW.r 14 ?_; refine AL.d AOp.ad ?_; refine xN 1 ?_) | fail)
    refine AW.again_keep (kids.length - (i + 1)) [1, 31, 32, 33] (by omega) ⟨i + 1, vrF x o2, g3, hlt, rfl, rfl, rfl, ?_⟩
    exact he
   ·rw [List.drop_eq_nil_of_le (by omega), vrL] at he
    rw [he]
    repeat' (first | refine AW.re 11 1 ?_ | refine AW.jj (fun hb => ?_) (fun hb => ?_) | refine AW.go ?_ | fail)
    all_goals try (exfalso; simp only [dT, dF, lM] at *; omega)
    exact AW.donev rfl ⟨rfl, _, rfl⟩
theorem ref_vars : ∀ (N : Nat) (f : GFml) (out : List ByteArray) (tb : Option Nat) (tc : Nat), ndF f ≤ N → f.Ok → shsF f = true → out.length + 48 * ndF f ≤ 1000000 →
  Tri Tryz.prog 18 [f.st, .slt (out.map AV.str) tb tc] [.tail tb (out.map AV.str).length tc 1] (fun x h => ∃ b' c', x = .ret (.slt ((vrF f out).map AV.str) b' c') ∧ h = [.tail b' ((vrF f out).map AV.str).length c' 1]) := by
 intro N
 induction N using Nat.strongRecOn with
 | _ N ih =>
  intro f out tb tc hN ho hsh hlen
  have hnd := ndF_eq f
  obtain ⟨_, q6, q7⟩ := ho
  rw [shsF_eq, bA] at hsh
  have hv := shaped_vars hsh.2
  have ha := shaped_args hsh.2
  obtain ⟨k, ar, nm, vars, args, kids⟩ := f
  rw [vrF, ← addVs_app]
  simp only at *
  refine Tri.enter 50 Tryz.func18 rfl rfl rfl rfl fun Fr w0 => ?_
  repeat' (first | (refine AW.r 0 ?_; (refine AL.d (AOp.box_ro (v := .st [.int .i64 k, .int .i64 ar, .str nm, strs vars, strs args, .sl (kids.map GFml.av)]) rfl rfl) ?_) <;> refine AL.es 1 ?_ <;> refine AL.nil ?_) | refine AW.go ?_ | fail)
  repeat' (first | (refine AW.ex 1 [false] [0, 3, 6, 7] ?_; refine AQE.hl ?_; refine AQE.p rfl AOp.fa ?_; refine AQE.p rfl AOp.la ?_; refine AQE.hl ?_; refine AQE.p rfl AOp.fa ?_; refine AQE.p rfl AOp.la ?_; refine AQE.hl ?_; refine AQE.hl ?_; refine AQE.nil ?_; refine AX.o (n := 3) 0 ?_; refine AXO.lit_own (e := 9) (sz := 1) (by kernel_rfl) rfl rfl rfl P_nil (by decide) fun b0 => ?_; try dsimp only [sA, sB, sC, sD] <;> refine AX.o (n := 2) 3 ?_ <;> refine AXO.append (i := 0) (e := 9) (sz := 1) (bytes := 16) rfl rfl rfl rfl (by kernel_rfl) (by kernel_rfl) (by repeat' (exact P_nil)) (by repeat' (exact P_map fun _ => rfl)) (ok_all (by repeat' (exact P_map fun _ => rfl))) (by (try simp only [lA, lM, List.length_take, List.length_drop, List.length_cons, List.length_nil, List.length_replicate]); omega) (by (try simp only [lA, lM, List.length_take, List.length_drop, List.length_cons, List.length_nil, List.length_replicate]); omega) rfl fun b' c' => ?_ <;> try dsimp only [sA, sB, sC, sD] <;> refine AX.o (n := 1) 6 ?_ <;> refine AXO.append (i := 0) (e := 9) (sz := 1) (bytes := 16) rfl rfl rfl rfl (by kernel_rfl) (by kernel_rfl) (by repeat' (first | exact P_nil | refine P_app ?_ ?_ | exact P_map fun _ => rfl)) (by repeat' (exact P_map fun _ => rfl)) (ok_all (by repeat' (exact P_map fun _ => rfl))) (by (try simp only [lA, lM, List.length_take, List.length_drop, List.length_cons, List.length_nil, List.length_replicate]); omega) (by (try simp only [lA, lM, List.length_take, List.length_drop, List.length_cons, List.length_nil, List.length_replicate]); omega) rfl fun b' c' => ?_ <;> try dsimp only [sA, sB, sC, sD] <;> refine AX.o (n := 0) 7 ?_ <;> refine AXO.e ?_ <;> try dsimp only [sA, sB, sC, sD] <;> refine AX.done_keep [0, 1, 2, 4, 5, 6, 7, 15, 16, 17, 18, 19, 20, 21, 22, 23, 24, 25, 26, 27, 28, 29, 30, 31, 32, 33, 34, 35, 36, 37, 38, 39, 40, 41, 42, 43, 44, 45, 46, 47, 48, 49] ?_) | refine AW.go ?_ | fail)
  refine AW.as_sl 5 rfl ?_
  refine AW.drop (List.sublist_cons_self _ _) ?_
  have hm : (AV.sl ([] ++ vars.map AV.str ++ args.map AV.str)) = strs (vars ++ args) := by simp [strs]
  rw [hm]
  have hll : (vars ++ args).length ≤ 48 := by simp; omega
  generalize vars ++ args = l at *
  repeat' (first | refine AW.re 2 1 ?_ | refine AW.go ?_ | fail)
  refine AW.prune [1, 2, 5, 6] (AW.loop (fun mz af h => ∃ (i : Nat) (o : List ByteArray) (tt : Option Nat) (cc : Nat), i ≤ l.length ∧ mz = l.length - i ∧ af = [(1, .slt (o.map AV.str) tt cc), (2, .at (.st [.int .i64 k, .int .i64 ar, .str nm, strs vars, strs args, .sl (kids.map GFml.av)])), (5, strs l), (6, .int .i64 i)] ∧ h = [.tail tt (o.map AV.str).length cc 1] ∧ (addVs l out = addVs (l.drop i) o ∧ o.length ≤ out.length + i)) l.length ⟨0, out, tb, tc, Nat.zero_le _, rfl, rfl, rfl, ⟨rfl, by omega⟩⟩ ?_)
  rintro mz af h ⟨i, o, tt, cc, hi, rfl, rfl, rfl, he⟩
  refine AW.seq ?_
  by_cases hlt : i < l.length
  ·obtain ⟨he, hol⟩ := he
   obtain ⟨x, hx⟩ := get_lt hlt
   have hx' : (l.map AV.str)[((i : Nat) : Int).toNat]? = some (.str x) := map_get hx
   have hM := ref_Among o x (by omega)
   rw [drop_cons hx, addVs] at he
   repeat' (first | refine AW.re 3 4 ?_ | refine AW.jj (fun hb => ?_) (fun hb => ?_) | refine AW.go ?_ | fail)
   all_goals try (exfalso; simp only [dT, dF, lM] at *; omega)
   repeat' (first | (refine xS 5 3 ?_; refine AL.d (iX hx') ?_; refine AL.es 1 ?_; refine AL.d (AOp.call_slt rfl rfl rfl (hM.pure _)) ?_; refine xN 1 ?_) | refine AW.jj (fun hb => ?_) (fun hb => ?_) | refine AW.go ?_ | fail)
   ·have hq : ¬ (o.any fun y => decide (y = x)) = true := fun h => by rw [h] at hb; cases hb
    rw [addV, if_neg hq] at he
    have hm2 : (o ++ [x]).map AV.str = o.map AV.str ++ [.str x] := by simp
    repeat' (first | (refine xS 6 3 ?_; refine AL.d (iX hx') ?_; refine AL.es 1 ?_; refine AL.d (AOp.lit (e := 9) (sz := 1) (by kernel_rfl) rfl rfl rfl (P_one rfl) (by decide)) ?_; refine AL.append (i := 0) (xs := o.map AV.str) (e := 9) (sz := 1) (bytes := 16) rfl rfl rfl rfl (by kernel_rfl) (by kernel_rfl) (P_map fun _ => rfl) (P_one rfl) rfl (by simp only [lM]; simp; omega) (by simp only [lM]; simp; omega) rfl fun b' c' => ?_ <;> refine AL.es 1 ?_ <;> refine AL.nil ?_) | (refine xS 4 1 ?_; refine AL.d AOp.ad ?_; refine xN 1 ?_) | fail)
    rw [← hm2]
    refine AW.frame_eq rfl (show _ = [Own.tail b' ((o ++ [x]).map AV.str).length c' 1] from by rw [hm2]; rfl) ?_
    refine AW.again_keep (l.length - (i + 1)) [1, 2, 5, 6] (by omega) ⟨i + 1, o ++ [x], b', c', hlt, rfl, rfl, rfl, ?_⟩
    exact ⟨he, by simp; omega⟩
   ·have hq : (o.any fun y => decide (y = x)) = true := by rw [Bool.not_eq_false'] at hb; exact hb
    rw [addV, if_pos hq] at he
    repeat' (first | (refine xS 4 1 ?_; refine AL.d AOp.ad ?_; refine xN 1 ?_) | fail)
    refine AW.again_keep (l.length - (i + 1)) [1, 2, 5, 6] (by omega) ⟨i + 1, o, tt, cc, hlt, rfl, rfl, rfl, ?_⟩
    exact ⟨he, by omega⟩
  ·obtain ⟨he, hol⟩ := he
   rw [List.drop_eq_nil_of_le (by omega), addVs] at he
   rw [he]
   repeat' (first | refine AW.re 3 4 ?_ | refine AW.re 7 1 ?_ | refine AW.jj (fun hb => ?_) (fun hb => ?_) | refine AW.go ?_ | fail)
   all_goals try (exfalso; simp only [dT, dF, lM] at *; omega)
   refine AW.prune [1, 2, 7] (AW.loop (fun mz af h => ∃ (i : Nat) (o2 : List ByteArray) (t2 : Option Nat) (c2 : Nat), i ≤ kids.length ∧ mz = kids.length - i ∧ af = [(1, .slt (o2.map AV.str) t2 c2), (2, .at (.st [.int .i64 k, .int .i64 ar, .str nm, strs vars, strs args, .sl (kids.map GFml.av)])), (7, .int .i64 i)] ∧ h = [.tail t2 (o2.map AV.str).length c2 1] ∧ (vrL kids o = vrL (kids.drop i) o2 ∧ o2.length + 48 * ndFs (kids.drop i) ≤ 1000000)) kids.length ⟨0, o, tt, cc, Nat.zero_le _, rfl, rfl, rfl, ⟨rfl, by simp only [List.drop_zero]; omega⟩⟩ ?_)
   rintro mz af h ⟨i, o2, t2, c2, hi, rfl, rfl, rfl, he⟩
   refine AW.seq ?_
   by_cases hlt : i < kids.length
   ·obtain ⟨he1, hle⟩ := he
    obtain ⟨x, hx⟩ := get_lt hlt
    have hx' : (kids.map GFml.av)[((i : Nat) : Int).toNat]? = some (x.st) := GFml.get hx
    have hxm := lG hx
    have hnx := ndFs_mem hxm
    rw [drop_cons hx, vrL] at he1
    rw [drop_cons hx, ndFs] at hle
    have hsx := shsFs_mem hsh.1 hxm
    have hc := ih (ndF x) (by omega) x o2 t2 c2 (Nat.le_refl _) (q7 x hxm) hsx (by omega)
    have hvl := vrF_len x o2 hsx
    repeat' (first | refine AW.re 8 5 ?_ | refine AW.jj (fun hb => ?_) (fun hb => ?_) | refine AW.go ?_ | fail)
    all_goals try (exfalso; simp only [dT, dF, lM] at *; omega)
    repeat' (first | (refine xS 10 3 ?_; refine AL.d (iX hx') ?_; refine AL.es 2 ?_; (refine AL.callQ rfl rfl hc rfl ?_ ?_; rotate_left; rintro _ _ ⟨_, _, e, _⟩; cases e; rintro _ _ ⟨b3, c3, e, rfl⟩; injection e with e; subst e) <;> refine AL.es 1 ?_ <;> refine AL.nil ?_) | refine AW.go ?_ | fail)
    repeat' (first | (refine xS 9 1 ?_; refine AL.d AOp.ad ?_; refine xN 1 ?_) | fail)
    refine AW.again_keep (kids.length - (i + 1)) [1, 2, 7] (by omega) ⟨i + 1, vrF x o2, b3, c3, hlt, rfl, rfl, rfl, ?_⟩
    exact ⟨he1, by omega⟩
   ·obtain ⟨he1, hle⟩ := he
    rw [List.drop_eq_nil_of_le (by omega), vrL] at he1
    rw [he1]
    repeat' (first | refine AW.re 8 5 ?_ | refine AW.re 11 2 ?_ | refine AW.jj (fun hb => ?_) (fun hb => ?_) | refine AW.go ?_ | fail)
    all_goals try (exfalso; simp only [dT, dF, lM] at *; omega)
    exact AW.retv rfl ⟨_, _, rfl, rfl⟩
theorem ref_vars0 (f : GFml) (ho : f.Ok) (hs : shsF f = true) (hn : 48 * ndF f ≤ 1000000) : Tri Tryz.prog 18 [f.st, .val (.slice none 0 0)] [] (D (strs (vrF f [])) []) :=
 (Tri.of_nil ((ref_vars _ f [] none 0 (Nat.le_refl _) ho hs (by simpa using hn)).mono fun x h ⟨b, c, h1, h2⟩ => ⟨b, c, _, _, h1, h2⟩)).forget
theorem n_Width (f : GFml) (ho : f.Ok) : Tri Tryz.prog 20 [f.st] [] (D (.tup [.int .i64 (bif validF f then ((vrF f []).length : Int) else 0), .int .i64 (bif validF f then 0 else 1)]) []) := by
 have hv := f_Valid f ho
 have hV := fun mb => n_vars _ f [] mb ⟨[], 0⟩ (Nat.le_refl _) ho
 generalize vrF f [] = L at *
 generalize validF f = V at *
 obtain ⟨k, ar, nm, vars, args, kids⟩ := f
 cases V with
 | true =>
  rw [cond_true, cond_true]
  refine Tri.enter 14 Tryz.func20 rfl rfl rfl rfl fun Fr w0 => ?_
  repeat' (first | (refine AW.r 0 ?_; (refine AL.d (AOp.box_ro (v := .st [.int .i64 k, .int .i64 ar, .str nm, strs vars, strs args, .sl (kids.map GFml.av)]) rfl rfl) ?_) <;> refine AL.es 2 ?_ <;> refine AL.nil ?_) | (refine xS 1 1 ?_; refine AL.d (AOp.call rfl rfl hv) ?_; refine xN 1 ?_) | refine AW.jf ?_ | refine AW.go ?_ | fail)
  repeat' (first | (refine AW.r 3 ?_; refine AL.makeMap rfl fun bm => ?_; refine xN 1 ?_) | refine AW.go ?_ | fail)
  have hw := hV bm
  repeat' (first | (refine xS 4 2 ?_; (refine AL.callQ rfl rfl hw rfl ?_ ?_; rotate_left; rintro _ _ ⟨e, _⟩; cases e; rintro _ _ ⟨e, g3, rfl⟩; injection e with e; subst e) <;> refine AL.nil ?_) | refine AW.go ?_ | fail)
  repeat' (first | (refine xS 5 1 ?_; refine AL.d (AOp.len_map (i := 0) (kd := .string) (e := 4) rfl rfl (by kernel_rfl)) ?_; refine xN 2 ?_) | fail)
  refine AW.ret_drop rfl (List.nil_sublist _) ⟨?_, rfl⟩
  simp [kvW, bmap, ofConst]
 | false =>
  rw [cond_false, cond_false]
  refine Tri.enter 14 Tryz.func20 rfl rfl rfl rfl fun Fr w0 => ?_
  repeat' (first | (refine AW.r 0 ?_; (refine AL.d (AOp.box_ro (v := .st [.int .i64 k, .int .i64 ar, .str nm, strs vars, strs args, .sl (kids.map GFml.av)]) rfl rfl) ?_) <;> refine AL.es 2 ?_ <;> refine AL.nil ?_) | (refine xS 1 1 ?_; refine AL.d (AOp.call rfl rfl hv) ?_; refine xN 1 ?_) | refine AW.re 2 2 ?_ | refine AW.jt ?_ | fail)
  exact AW.retv rfl ⟨rfl, rfl⟩
def has (l : List ByteArray) (s : ByteArray) : Bool := l.any fun x => decide (x = s)
theorem Contains_has (xs : List ByteArray) (hl : xs.length ≤ 4611686018427387904) (s : ByteArray) : Tri Tryz.prog 80 [strs xs, .str s] [] (D (.bool (has xs s)) []) := by
 have h := Contains_str xs hl s
 rw [any_flip] at h
 exact h
theorem Among_has (xs : List ByteArray) (hl : xs.length ≤ 4611686018427387904) (s : ByteArray) : Tri Tryz.prog 17 [strs xs, .str s] [] (D (.bool (has xs s)) []) := ref_Among xs s hl
mutual
def cpF (a b : ByteArray) : GFml → Bool → Bool
 | ⟨_, _, _, vars, args, kids⟩, bd => bif bd && has args a then true else bif has vars a then false else cpL a b kids (bd || has vars b)
def cpL (a b : ByteArray) : List GFml → Bool → Bool
 | [], _ => false
 | x :: l, bd => cpF a b x bd || cpL a b l bd
end
theorem cpL_any (a b : ByteArray) (bd : Bool) : ∀ l : List GFml, cpL a b l bd = l.any fun x => cpF a b x bd
 | [] => rfl
 | x :: l => by rw [cpL, List.any_cons, cpL_any a b bd l]
theorem cap1 (a b : ByteArray) (bd : Bool) (x : GFml) {v : Bool} (hc : Tri Tryz.prog 57 [x.st, .str a, .str b, .bool bd] [] (D (.bool v) [])) : Tri Tryz.prog 108 [x.st, .at (.str a), .at (.str b), .at (.bool bd)] [] (D (.bool v) []) := by
 obtain ⟨k, ar, nm, vars, args, kids⟩ := x
 refine Tri.enter 11 Tryz.func108 rfl rfl rfl rfl fun Fr w0 => ?_
 repeat' (first | (refine AW.r 0 ?_; (refine AL.d (AOp.box_ro (v := .st [.int .i64 k, .int .i64 ar, .str nm, strs vars, strs args, .sl (kids.map GFml.av)]) rfl rfl) ?_) <;> refine AL.es 1 ?_ <;> refine AL.nil ?_) | (refine xS 1 4 ?_; refine AL.d (AOp.call rfl rfl hc) ?_; refine xN 1 ?_) | fail)
 exact AW.retv rfl ⟨rfl, rfl⟩
theorem n_captures (a b : ByteArray) : ∀ (N : Nat) (f : GFml) (bd : Bool), ndF f ≤ N → f.Ok → Tri Tryz.prog 57 [f.st, .str a, .str b, .bool bd] [] (D (.bool (cpF a b f bd)) []) := by
 intro N
 induction N using Nat.strongRecOn with
 | _ N ih =>
  intro f bd hN ho
  have hnd := ndF_eq f
  obtain ⟨⟨_, _, _, q4, q5⟩, q6, q7⟩ := ho
  have l4 := q4.1
  have l5 := q5.1
  have hA := Contains_has f.Args (by omega) a
  have hVa := Contains_has f.Vars (by omega) a
  have hVb := Contains_has f.Vars (by omega) b
  have hK := fun bd => ContainsFunc_Fml f.Kids (by omega) 108 [.at (.str a), .at (.str b), .at (.bool bd)] (fun x => cpF a b x bd) fun x hx => cap1 a b bd x (ih (ndF x) (by have := ndFs_mem hx; omega) x bd (Nat.le_refl _) (q7 x hx))
  obtain ⟨k, ar, nm, vars, args, kids⟩ := f
  rw [cpF, cpL_any]
  simp only at *
  generalize has args a = HA at *
  generalize has vars a = HVa at *
  generalize has vars b = HVb at *
  refine Tri.enter 31 Tryz.func57 rfl rfl rfl rfl fun Fr w0 => ?_
  repeat' (first | (refine AW.r 0 ?_; (refine AL.d (AOp.box_ro (v := .st [.int .i64 k, .int .i64 ar, .str nm, strs vars, strs args, .sl (kids.map GFml.av)]) rfl rfl) ?_) <;> (refine AL.d (AOp.box_ro (v := .str a) rfl rfl) ?_) <;> (refine AL.d (AOp.box_ro (v := .str b) rfl rfl) ?_) <;> (refine AL.box (v := .bool bd) rfl rfl rfl fun r7 => ?_) <;> refine AL.es 1 ?_ <;> refine AL.nil ?_) | refine AW.go ?_ | fail)
  have hgo : ∀ (p q : Bool), Tri Tryz.prog 107 [.sl (kids.map GFml.av), .fn 108 [.at (.str a), .at (.str b), .at (.bool p)]] [] (D (.bool (kids.any fun x => cpF a b x p)) []) := fun p _ => hK p
  cases bd with
  | true =>
   cases HA with
   | true =>
    repeat' (first | (refine AW.r 1 ?_; refine AL.d (AOp.ll 0) ?_; refine AL.es 1 ?_; ((refine AL.gd ?_; (refine AL.d AOp.fa ?_))) <;> ((refine AL.gd ?_; (refine AL.d AOp.la ?_))) <;> ((refine AL.gd ?_; (refine AL.d AOp.la ?_))) <;> ((refine AL.gd ?_; refine AL.d (AOp.call rfl rfl (hA.pure _)) ?_)) <;> refine AL.es 1 ?_ <;> refine AL.nil ?_) | refine AW.re 2 1 ?_ | refine AW.jt ?_ | fail)
    exact AW.ret_drop rfl (List.nil_sublist _) ⟨rfl, rfl⟩
   | false =>
    cases HVa with
    | true =>
     repeat' (first | (refine AW.r 1 ?_; refine AL.d (AOp.ll 0) ?_; refine AL.es 1 ?_; ((refine AL.gd ?_; (refine AL.d AOp.fa ?_))) <;> ((refine AL.gd ?_; (refine AL.d AOp.la ?_))) <;> ((refine AL.gd ?_; (refine AL.d AOp.la ?_))) <;> ((refine AL.gd ?_; (refine AL.d (AOp.call rfl rfl (hA.pure _)) ?_))) <;> refine AL.es 1 ?_ <;> refine AL.nil ?_) | (refine AW.r 3 ?_; refine AL.d AOp.fa ?_; refine AL.d AOp.la ?_; refine AL.d AOp.la ?_; refine AL.d (AOp.call rfl rfl (hVa.pure _)) ?_; refine AL.nil ?_) | refine AW.re 4 1 ?_ | refine AW.jt ?_ | refine AW.jf ?_ | fail)
     exact AW.ret_drop rfl (List.nil_sublist _) ⟨rfl, rfl⟩
    | false =>
     repeat' (first | (refine AW.r 1 ?_; refine AL.d (AOp.ll 0) ?_; refine AL.es 1 ?_; ((refine AL.gd ?_; (refine AL.d AOp.fa ?_))) <;> ((refine AL.gd ?_; (refine AL.d AOp.la ?_))) <;> ((refine AL.gd ?_; (refine AL.d AOp.la ?_))) <;> ((refine AL.gd ?_; (refine AL.d (AOp.call rfl rfl (hA.pure _)) ?_))) <;> refine AL.es 1 ?_ <;> refine AL.nil ?_) | (refine AW.r 3 ?_; refine AL.d AOp.fa ?_; refine AL.d AOp.la ?_; refine AL.d AOp.la ?_; refine AL.d (AOp.call rfl rfl (hVa.pure _)) ?_; refine AL.nil ?_) | refine AW.jf ?_ | refine AW.go ?_ | fail)
     repeat' (first | (refine AW.r 5 ?_; refine AL.d (AOp.ll 0) ?_; refine AL.es 1 ?_; refine AL.gs ?_; refine AL.gs ?_; refine AL.gs ?_; refine AL.gs ?_; refine AL.es 1 ?_; refine AL.sl 0 ?_; refine AL.nil ?_) | fail)
     refine AW.freeze 0 7 rfl rfl ?_
     have hk := hK true
     repeat' (first | (refine xS 6 3 ?_; refine AL.d (AOp.call rfl rfl hk) ?_; refine xN 1 ?_) | fail)
     exact AW.retv rfl ⟨rfl, rfl⟩
  | false =>
   cases HVa with
   | true =>
    repeat' (first | (refine AW.r 1 ?_; refine AL.d (AOp.ll 0) ?_; refine AL.es 1 ?_; refine AL.gs ?_; refine AL.gs ?_; refine AL.gs ?_; refine AL.gs ?_; refine xN 1 ?_) | (refine AW.r 3 ?_; refine AL.d AOp.fa ?_; refine AL.d AOp.la ?_; refine AL.d AOp.la ?_; refine AL.d (AOp.call rfl rfl (hVa.pure _)) ?_; refine AL.nil ?_) | refine AW.re 4 1 ?_ | refine AW.jt ?_ | refine AW.jf ?_ | fail)
    exact AW.ret_drop rfl (List.nil_sublist _) ⟨rfl, rfl⟩
   | false =>
    have hk := hK (false || HVb)
    repeat' (first | (refine AW.r 1 ?_; refine AL.d (AOp.ll 0) ?_; refine AL.es 1 ?_; refine AL.gs ?_; refine AL.gs ?_; refine AL.gs ?_; refine AL.gs ?_; refine xN 1 ?_) | (refine AW.r 3 ?_; refine AL.d AOp.fa ?_; refine AL.d AOp.la ?_; refine AL.d AOp.la ?_; refine AL.d (AOp.call rfl rfl (hVa.pure _)) ?_; refine AL.nil ?_) | refine AW.jf ?_ | refine AW.go ?_ | fail)
    repeat' (first | (refine AW.r 5 ?_; refine AL.d (AOp.ll 0) ?_; refine AL.es 1 ?_; ((refine AL.gd ?_; (refine AL.d AOp.fa ?_))) <;> ((refine AL.gd ?_; (refine AL.d AOp.la ?_))) <;> ((refine AL.gd ?_; (refine AL.d AOp.la ?_))) <;> ((refine AL.gd ?_; refine AL.d (AOp.call rfl rfl (hVb.pure _)) ?_)) <;> refine AL.es 1 ?_ <;> refine AL.sl 0 ?_ <;> refine AL.nil ?_) | fail)
    refine AW.freeze 0 7 rfl rfl ?_
    repeat' (first | (refine xS 6 3 ?_; refine AL.d (AOp.call rfl rfl hk) ?_; refine xN 1 ?_) | fail)
    exact AW.retv rfl ⟨rfl, rfl⟩
def rnV (M : List (ByteArray × ByteArray)) (v : ByteArray) : ByteArray := (lookA M v).getD v
theorem n_renamed (M : List (ByteArray × ByteArray)) (mb : Nat) (g : MG) (l : List ByteArray) (hl : l.length ≤ 8796093021952) :
  Tri Tryz.prog 100 [strs l, .map mb] [.map mb (kvW AV.str M) g] (D (strs (l.map (rnV M))) [.map mb (kvW AV.str M) g]) := by
 refine Tri.enter 30 Tryz.func100 rfl rfl rfl rfl fun Fr w0 => ?_
 repeat' (first | (refine AW.r 0 ?_; refine AL.d AOp.assign_nil ?_; refine AL.nil ?_) | (refine AW.r 1 ?_; refine AL.d AOp.assign_nil ?_; refine AL.nil ?_) | (refine AW.r 2 ?_; refine AL.e ?_; refine AL.es 1 ?_; refine AL.e ?_; refine AL.nil ?_) | refine AW.go ?_ | fail)
 refine AW.own_nil 1 ?_
 refine AW.prune [1, 5, 10, 11, 12] (AW.loop (fun mz af h => ∃ (i : Nat) (o : List ByteArray) (tt : Option Nat) (cc : Nat), i ≤ l.length ∧ mz = l.length - i ∧ af = [(1, .map mb), (5, .slt (o.map AV.str) tt cc), (10, strs l), (11, .int .i64 (l.map AV.str).length), (12, .int .i64 i)] ∧ h = [.tail tt (o.map AV.str).length cc 1, .map mb (kvW AV.str M) g] ∧ o = (l.take i).map (rnV M)) l.length ⟨0, [], none, 0, Nat.zero_le _, rfl, rfl, rfl, by simp⟩ ?_)
 rintro mz af h ⟨i, o, tt, cc, hi, rfl, rfl, rfl, he⟩
 refine AW.seq ?_
 by_cases hlt : i < l.length
 ·obtain ⟨x, hx⟩ := get_lt hlt
  have hx' : (l.map AV.str)[((i : Nat) : Int).toNat]? = some (.str x) := map_get hx
  have hol : o.length ≤ 8796093021952 := by rw [he]; simp; omega
  have hm : (o ++ [rnV M x]).map AV.str = o.map AV.str ++ [.str (rnV M x)] := by simp
  repeat' (first | refine AW.re 3 1 ?_ | (refine AW.r 4 ?_; refine AL.d (iX hx') ?_; refine xN 2 ?_) | refine AW.jj (fun hb => ?_) (fun hb => ?_) | refine AW.go ?_ | fail)
  all_goals try (exfalso; simp only [dT, dF, lM] at *; omega)
  cases hL : lookA M x with
  | none =>
   have hr : rnV M x = x := by rw [rnV, hL]; rfl
   rw [hr] at hm
   repeat' (first | (refine xS 5 2 ?_; refine AL.d (AOp.lookS_miss 1 9 (.string ⟨#[]⟩) (ok := true) hL rfl rfl rfl (by kernel_rfl) (by kernel_rfl)) ?_; refine xN 5 ?_) | refine AW.re 6 1 ?_ | (refine xS 8 2 ?_; refine AL.d (AOp.lit (e := 9) (sz := 1) (by kernel_rfl) rfl rfl rfl (P_one rfl) (by decide)) ?_; refine AL.append (i := 0) (xs := o.map AV.str) (e := 9) (sz := 1) (bytes := 16) rfl rfl rfl rfl (by kernel_rfl) (by kernel_rfl) (P_map fun _ => rfl) (P_one rfl) rfl (by simp only [lM]; simp; omega) (by simp only [lM]; simp; omega) rfl fun b' c' => ?_ <;> refine AL.es 1 ?_ <;> refine AL.nil ?_) | (refine AW.r 9 ?_; refine AL.d AOp.ad ?_; refine xN 1 ?_) | refine AW.jf ?_ | fail)
   rw [← hm]
   refine AW.frame_eq rfl (show _ = [Own.tail b' ((o ++ [x]).map AV.str).length c' 1, .map mb (kvW AV.str M) g] from by rw [hm]; rfl) ?_
   refine AW.again_keep (l.length - (i + 1)) [1, 5, 10, 11, 12] (by omega) ⟨i + 1, o ++ [x], b', c', hlt, rfl, rfl, rfl, ?_⟩
   rw [he, List.take_add_one, hx]; simp [hr]
  | some w =>
   have hr : rnV M x = w := by rw [rnV, hL]; rfl
   rw [hr] at hm
   repeat' (first | (refine xS 5 2 ?_; refine AL.d (AOp.lookS_hit 1 9 (g := AV.str) (ok := true) hL rfl rfl rfl (by kernel_rfl)) ?_; refine xN 5 ?_) | refine AW.re 6 1 ?_ | refine AW.re 7 2 ?_ | (refine xS 8 2 ?_; refine AL.d (AOp.lit (e := 9) (sz := 1) (by kernel_rfl) rfl rfl rfl (P_one rfl) (by decide)) ?_; refine AL.append (i := 0) (xs := o.map AV.str) (e := 9) (sz := 1) (bytes := 16) rfl rfl rfl rfl (by kernel_rfl) (by kernel_rfl) (P_map fun _ => rfl) (P_one rfl) rfl (by simp only [lM]; simp; omega) (by simp only [lM]; simp; omega) rfl fun b' c' => ?_ <;> refine AL.es 1 ?_ <;> refine AL.nil ?_) | (refine AW.r 9 ?_; refine AL.d AOp.ad ?_; refine xN 1 ?_) | refine AW.jt ?_ | fail)
   rw [← hm]
   refine AW.frame_eq rfl (show _ = [Own.tail b' ((o ++ [w]).map AV.str).length c' 1, .map mb (kvW AV.str M) g] from by rw [hm]; rfl) ?_
   refine AW.again_keep (l.length - (i + 1)) [1, 5, 10, 11, 12] (by omega) ⟨i + 1, o ++ [w], b', c', hlt, rfl, rfl, rfl, ?_⟩
   rw [he, List.take_add_one, hx]; simp [hr]
 ·have ho2 : o = l.map (rnV M) := by rw [he, List.take_of_length_le (by omega)]
  subst ho2
  repeat' (first | refine AW.re 3 1 ?_ | refine AW.jj (fun hb => ?_) (fun hb => ?_) | refine AW.go ?_ | fail)
  all_goals try (exfalso; simp only [dT, dF, lM] at *; omega)
  refine AW.as_sl 5 rfl ?_
  repeat' (first | refine AW.re 10 2 ?_ | fail)
  exact AW.ret_drop rfl (List.sublist_cons_self _ _) ⟨rfl, rfl⟩
theorem n_with0 (f : GFml) (ho : f.Ok) : Tri Tryz.prog 99 [f.st, nilS] [] (D (.st [.int .i64 f.Kind, .int .i64 f.Arity, .str f.Name, strs f.Vars, strs f.Args, nilS]) []) := by
 obtain ⟨⟨_, _, _, h4, h5⟩, h6, h7⟩ := ho
 have hv := Clone_str f.Vars (by have := h4.1; omega)
 have ha := Clone_str f.Args (by have := h5.1; omega)
 obtain ⟨k, ar, nm, vars, args, kids0⟩ := f
 simp only at *
 refine Tri.enter 16 Tryz.func99 rfl rfl rfl rfl fun Fr w0 => ?_
 repeat' (first | (refine AW.r 0 ?_; refine AL.box rfl rfl rfl fun b => ?_; refine AL.alloc_z (t := 25) zF (by kernel_rfl) rfl rfl fun r => ?_; refine AL.nil ?_) | refine AW.go ?_ | fail)
 repeat' (first | (refine AW.ex 1 [false, true] [8, 10, 12] ?_; refine AQE.p rfl (AOp.fr 3) ?_; refine AQE.pe rfl (AOp.ll 0) ?_; refine AQE.p rfl (AOp.call rfl rfl (hv.pure _)) ?_; refine AQE.p rfl (AOp.fr 4) ?_; refine AQE.pe rfl (AOp.ll 0) ?_; refine AQE.p rfl (AOp.call rfl rfl (ha.pure _)) ?_; refine AQE.e ?_; refine AQE.p rfl (AOp.fr 3) ?_; refine AQE.hl ?_; refine AQE.p rfl (AOp.fr 4) ?_; refine AQE.hl ?_; refine AQE.p rfl (AOp.fr 5) ?_; refine AQE.hl ?_; refine AQE.nil ?_; refine AX.o (n := 2) 8 ?_; refine AXO.sl 0 fun _ => ?_; try dsimp only [sA, sB, sC, sD] <;> refine AX.o (n := 1) 10 ?_ <;> (refine AXO.sl 0 fun _ => ?_) <;> try dsimp only [sA, sB, sC, sD] <;> refine AX.o (n := 0) 12 ?_ <;> (refine AXO.sl 0 fun _ => ?_) <;> try dsimp only [sA, sB, sC, sD] <;> refine AX.done_keep [0, 2, 4, 15, 25] ?_) | refine AW.go ?_ | fail)
 refine AW.prune [2, 4] ?_
 repeat' (first | (refine AW.r 2 ?_; refine AL.d (AOp.lw 0) ?_; refine AL.sl 1 ?_; refine AL.nil ?_) | fail)
 exact AW.retc (.cell 1 rfl rfl (by kernel_rfl) .nil) (List.nil_sublist _) ⟨rfl, rfl⟩
abbrev SP := Option (ByteArray × ByteArray)
def SP.m (o : SP) : List (ByteArray × ByteArray) := o.toList
def SP.flt (o : SP) (vars : List ByteArray) : SP := match o with | some p => if has vars p.1 = true then none else some p | none => none
mutual
def rnG : SP → GFml → GFml
 | o, ⟨k, ar, nm, vars, args, kids⟩ => ⟨k, ar, nm, vars, args.map (rnV o.m), rnGL (o.flt vars) kids⟩
def rnGL : SP → List GFml → List GFml
 | _, [] => []
 | o, x :: l => rnG o x :: rnGL o l
end
theorem rnGL_map (o : SP) : ∀ l : List GFml, rnGL o l = l.map (rnG o)
 | [] => by rw [rnGL]; rfl
 | x :: l => by rw [rnGL, rnGL_map o l]; rfl
theorem wk_nil : Wk (.val (.slice none 0 0)) (.slt [] none 0) := fun S w cs h => by
 simp only [RelC] at h ⊢
 exact ⟨by rw [h]; rfl, by simp, by simp, by simp⟩
theorem n_rename : ∀ (N : Nat) (f : GFml) (o : SP) (mb : Nat) (g : MG), ndF f ≤ N → f.Ok →
  Tri Tryz.prog 58 [f.st, .map mb] [.map mb (kvW AV.str o.m) g] (D (rnG o f).st [.map mb (kvW AV.str o.m) g]) := by
 intro N
 induction N using Nat.strongRecOn with
 | _ N ih =>
  intro f o mb g hN ho
  have hnd := ndF_eq f
  have hW := n_with0 f ho
  obtain ⟨⟨_, _, _, q4, q5⟩, q6, q7⟩ := ho
  have l4 := q4.1
  have l5 := q5.1
  have hA := n_renamed o.m mb g f.Args (by omega)
  have hC := fun s => Contains_has f.Vars (by omega) s
  obtain ⟨k, ar, nm, vars, args, kids⟩ := f
  rw [rnG]
  simp only at *
  refine Tri.enter 51 Tryz.func58 rfl rfl rfl rfl fun Fr w0 => ?_
  repeat' (first | (refine AW.r 0 ?_; (refine AL.d (AOp.box_ro (v := .st [.int .i64 k, .int .i64 ar, .str nm, strs vars, strs args, .sl (kids.map GFml.av)]) rfl rfl) ?_) <;> refine AL.alloc_z (t := 25) zF (by kernel_rfl) rfl rfl fun r4 => ?_ <;> refine AL.nil ?_) | refine AW.go ?_ | fail)
  repeat' (first | (refine AW.r 1 ?_; refine AL.d AOp.la ?_; refine AL.d (AOp.call_nil2 rfl rfl (hW.pure _)) ?_; refine AL.alloc_z (t := 25) zF (by kernel_rfl) rfl rfl fun r5 => ?_; refine AL.sl 0 ?_; refine AL.nil ?_) | refine AW.go ?_ | fail)
  refine AW.perm (b := [.map mb (kvW AV.str o.m) g, .box r5 (.st [.int .i64 k, .int .i64 ar, .str nm, strs vars, strs args, nilS]), .box r4 zF]) ((List.perm_append_comm (l₁ := [_, _]) (l₂ := [_]))) ?_
  refine AW.prune [1, 2, 4, 5] ?_
  have hA' : Tri Tryz.prog 100 [strs args, .map mb] [.map mb (kvW AV.str o.m) g, .box r5 (.st [.int .i64 k, .int .i64 ar, .str nm, strs vars, strs args, nilS]), .box r4 zF] (D (strs (args.map (rnV o.m))) [.map mb (kvW AV.str o.m) g, .box r5 (.st [.int .i64 k, .int .i64 ar, .str nm, strs vars, strs args, nilS]), .box r4 zF]) := Tri.frameD (ah := [_, _, _]) [true] hA
  repeat' (first | (refine AW.r 2 ?_; refine AL.d AOp.fa ?_; refine AL.d AOp.la ?_; refine AL.es 1 ?_; refine AL.d (AOp.call rfl rfl hA') ?_; refine AL.d (AOp.fr 4) ?_; refine AL.sl 1 ?_; refine AL.nil ?_) | refine AW.go ?_ | fail)
  generalize hargs2 : args.map (rnV o.m) = args2 at *
  repeat' (first | (refine AW.r 3 ?_; refine AL.makeMap rfl fun m6 => ?_; refine xN 1 ?_) | refine AW.go ?_ | fail)
  repeat' (first | (refine xS 4 1 ?_; refine AL.range 1 9 .string rfl rfl (by kernel_rfl) rfl fun it => ?_; refine AL.nil ?_) | refine AW.go ?_ | fail)
  refine AW.prune [1, 2, 4, 5, 6, 20] (AW.loop (fun m af h => ∃ (idx : List Nat) (q : SP) (g6 : MG), af = [(1, .map mb), (2, .at (.st [.int .i64 k, .int .i64 ar, .str nm, strs vars, strs args, .sl (kids.map GFml.av)])), (4, .ref r4 0), (5, .ref r5 0), (6, .map m6), (20, .ref it 0)] ∧ h = [.iter it mb g.clk (seenOf g idx), .map m6 (kvW AV.str (SP.m q)) g6, .map mb (kvW AV.str o.m) g, .box r5 (.st [.int .i64 k, .int .i64 ar, .str nm, strs vars, strs args2, nilS]), .box r4 zF] ∧ m = o.m.length - idx.length ∧ ((idx = [] ∧ q = none) ∨ (idx = [0] ∧ o ≠ none ∧ q = o.flt vars))) o.m.length ⟨[], none, ⟨[], 0⟩, rfl, rfl, rfl, .inl ⟨rfl, rfl⟩⟩ ?_)
  rintro m af h ⟨idx, q, g6, rfl, rfl, rfl, hq⟩
  refine AW.seq ?_
  have hbd : ∀ j ∈ idx, j < (kvW AV.str o.m).length := by
   rcases hq with ⟨rfl, _⟩ | ⟨rfl, ho, _⟩
   ·intro j hj; cases hj
   ·intro j hj
    rw [List.mem_singleton.1 hj]
    cases o with
    | none => exact (ho rfl).elim
    | some p => simp [kvW, SP.m]
  repeat' (first | (refine AW.r 5 ?_; refine AL.next 2 0 idx rfl rfl rfl hbd rfl (fun hall => ?_) (fun j key v hk1 hk2 => ?_) <;> refine AL.es 1 ?_ <;> refine AL.nil ?_) | refine AW.jt ?_ | refine AW.jf ?_ | refine AW.go ?_ | fail)
  ·have hqe : q = o.flt vars := by
    rcases hq with ⟨rfl, rfl⟩ | ⟨_, _, h⟩
    ·cases o with
     | none => rfl
     | some p => have := hall 0 (by simp [kvW, SP.m]); cases this
    ·exact h
   subst hqe
   generalize o.flt vars = q at *
   refine AW.perm (b := [.box r5 (.st [.int .i64 k, .int .i64 ar, .str nm, strs vars, strs args2, nilS]), .iter it mb g.clk (seenOf g idx), .map m6 (kvW AV.str (SP.m q)) g6, .map mb (kvW AV.str o.m) g, .box r4 zF]) (List.perm_middle (l₁ := [_, _, _])) ?_
   refine AW.drop (ah' := [.box r5 (.st [.int .i64 k, .int .i64 ar, .str nm, strs vars, strs args2, nilS]), .map m6 (kvW AV.str (SP.m q)) g6, .map mb (kvW AV.str o.m) g, .box r4 zF]) ((List.sublist_cons_self _ _).cons_cons _) ?_
   refine AW.weak_box 0 (.st [.int .i64 k, .int .i64 ar, .str nm, strs vars, strs args2, .slt [] none 0]) rfl (.st (.cons (.refl _) (.cons (.refl _) (.cons (.refl _) (.cons (.refl _) (.cons (.refl _) (.cons wk_nil .nil))))))) ?_
   refine AW.own_nil 6 ?_
   repeat' (first | refine AW.re 9 4 ?_ | refine AW.go ?_ | fail)
   refine AW.prune [4, 5, 6, 35, 36, 37] (AW.loop (fun mz af h => ∃ (i : Nat) (oo : List GFml) (tt : Option Nat) (cc : Nat), i ≤ kids.length ∧ mz = kids.length - i ∧ af = [(4, .ref r4 0), (5, .ref r5 0), (6, .map m6), (35, .sl (kids.map GFml.av)), (36, .int .i64 (kids.map GFml.av).length), (37, .int .i64 i)] ∧ h = [.tail tt (oo.map GFml.av).length cc 6, .box r5 (.st [.int .i64 k, .int .i64 ar, .str nm, strs vars, strs args2, .slt (oo.map GFml.av) tt cc]), .map m6 (kvW AV.str (SP.m q)) g6, .map mb (kvW AV.str o.m) g, .box r4 zF] ∧ oo = (kids.take i).map (rnG q)) kids.length ⟨0, [], none, 0, Nat.zero_le _, rfl, rfl, rfl, by simp⟩ ?_)
   rintro mz af h ⟨i, oo, tt, cc, hi, rfl, rfl, rfl, he⟩
   refine AW.seq ?_
   by_cases hlt : i < kids.length
   ·obtain ⟨x, hx⟩ := get_lt hlt
    have hx' : (kids.map GFml.av)[((i : Nat) : Int).toNat]? = some (x.st) := GFml.get hx
    have hxm := lG hx
    have hnx := ndFs_mem hxm
    have hc := Tri.frameD (ah := [Own.map m6 (kvW AV.str (SP.m q)) g6, .map mb (kvW AV.str o.m) g, .box r4 zF]) [true] (ih (ndF x) (by omega) x q m6 g6 (Nat.le_refl _) (q7 x hxm))
    have hol : oo.length ≤ 1353245080300 := by rw [he]; simp; omega
    have hm : (oo ++ [rnG q x]).map GFml.av = oo.map GFml.av ++ [(rnG q x).st] := by simp [GFml.av_eq]
    repeat' (first | refine AW.re 10 1 ?_ | (refine AW.r 11 ?_; refine AL.d (iX hx') ?_; refine AL.es 1 ?_; refine AL.alloc_store (by kernel_rfl) rfl rfl rfl rfl ?_; refine AL.nil ?_) | refine AW.jj (fun hb => ?_) (fun hb => ?_) | refine AW.go ?_ | fail)
    all_goals try (exfalso; simp only [dT, dF, lM] at *; omega)
    repeat' (first | (refine AW.ex 12 [true, true] [6, 8] ?_; refine AQE.p rfl (AOp.fr 5) ?_; refine AQE.pe rfl (AOp.ll 1) ?_; refine AQE.p rfl AOp.la ?_; refine AQE.e ?_; refine AQE.p rfl (AOp.call rfl rfl hc) ?_; refine AQE.p rfl (AOp.lit (e := 25) (sz := 6) (by kernel_rfl) rfl rfl rfl (P_one rfl) (by decide)) ?_; refine AQE.hl ?_; refine AQE.p rfl (AOp.fr 5) ?_; refine AQE.hl ?_; refine AQE.nil ?_; refine AX.o (n := 1) 6 ?_; refine AXO.append (i := 0) (xs := oo.map GFml.av) (e := 25) (sz := 6) (bytes := 104) rfl rfl rfl rfl (by kernel_rfl) (by kernel_rfl) (P_map GFml.size_av) (P_one rfl) rfl (by simp only [lM]; simp; omega) (by simp only [lM]; simp; omega) rfl fun b' c' => ?_ <;> try dsimp only [sA, sB, sC, sD] <;> refine AX.o (n := 0) 8 ?_ <;> (refine AXO.sl 1 fun _ => ?_) <;> try dsimp only [sA, sB, sC, sD] <;> refine AX.done_keep [0, 1, 2, 4, 5, 6, 7, 8, 10, 11, 12, 13, 14, 15, 16, 17, 18, 19, 20, 21, 22, 23, 24, 25, 26, 27, 28, 29, 30, 31, 32, 33, 34, 35, 36, 37, 38, 39, 40, 49, 50] ?_) | refine AW.go ?_ | fail)
    repeat' (first | (refine AW.r 13 ?_; refine AL.d AOp.ad ?_; refine xN 1 ?_) | fail)
    refine AW.frame_eq rfl (show _ = [Own.tail b' ((oo ++ [rnG q x]).map GFml.av).length c' 6, .box r5 (.st [.int .i64 k, .int .i64 ar, .str nm, strs vars, strs args2, .slt ((oo ++ [rnG q x]).map GFml.av) b' c']), .map m6 (kvW AV.str (SP.m q)) g6, .map mb (kvW AV.str o.m) g, .box r4 zF] from by rw [hm]; rfl) ?_
    refine AW.again_keep (kids.length - (i + 1)) [4, 5, 6, 35, 36, 37] (by omega) ⟨i + 1, oo ++ [rnG q x], b', c', hlt, rfl, rfl, rfl, ?_⟩
    rw [he, List.take_add_one, hx]; simp
   ·have ho2 : oo = rnGL q kids := by rw [rnGL_map, he, List.take_of_length_le (by omega)]
    subst ho2
    refine AW.weak_box 1 (.st [.int .i64 k, .int .i64 ar, .str nm, strs vars, strs args2, .sl ((rnGL q kids).map GFml.av)]) rfl (.st (.cons (.refl _) (.cons (.refl _) (.cons (.refl _) (.cons (.refl _) (.cons (.refl _) (.cons .slt .nil))))))) ?_
    repeat' (first | refine AW.re 10 1 ?_ | refine AW.jj (fun hb => ?_) (fun hb => ?_) | refine AW.go ?_ | fail)
    all_goals try (exfalso; simp only [dT, dF, lM] at *; omega)
    repeat' (first | (refine AW.r 14 ?_; refine AL.d (AOp.lw 1) ?_; refine AL.sl 4 ?_; refine AL.nil ?_) | fail)
    exact AW.retc (.cell 4 rfl rfl (by kernel_rfl) .nil) (.cons _ (.cons _ (.cons _ (.cons_cons _ (.cons _ .slnil))))) ⟨rfl, rfl⟩
  ·cases o with
   | none => simp [kvW, SP.m] at hk2
   | some p =>
    obtain ⟨a, b⟩ := p
    have hj0 : j = 0 ∧ key = .str a ∧ v = .str b := by
     cases j with
     | zero => simp [kvW, SP.m] at hk2; exact ⟨rfl, hk2.1.symm, hk2.2.symm⟩
     | succ j => simp [kvW, SP.m] at hk2
    obtain ⟨rfl, rfl, rfl⟩ := hj0
    rcases hq with ⟨rfl, rfl⟩ | ⟨rfl, _, _⟩
    ·have hca := hC a
     have hflt : SP.flt (some (a, b)) vars = if has vars a = true then none else some (a, b) := rfl
     generalize has vars a = HV at *
     cases HV with
     | true =>
      repeat' (first | (refine AW.r 6 ?_; refine AL.d (AOp.entry (i := 2) (j := 0) (k := 0) rfl rfl rfl hk2) ?_; refine xN 4 ?_) | (refine xS 7 3 ?_; refine AL.d (AOp.call rfl rfl (hca.pure _)) ?_; refine xN 1 ?_) | refine AW.jf ?_ | refine AW.go ?_ | fail)
      exact AW.again_keep 0 [1, 2, 4, 5, 6, 20] (by simp [SP.m]) ⟨[0], none, g6, rfl, rfl, rfl, .inr ⟨rfl, by simp, by rw [hflt]; rfl⟩⟩
     | false =>
      repeat' (first | (refine AW.r 6 ?_; refine AL.d (AOp.entry (i := 2) (j := 0) (k := 0) rfl rfl rfl hk2) ?_; refine xN 4 ?_) | (refine xS 7 3 ?_; refine AL.d (AOp.call rfl rfl (hca.pure _)) ?_; refine xN 1 ?_) | (refine xS 8 3 ?_; refine AL.setS 1 9 AV.str b rfl rfl rfl rfl (by kernel_rfl) ?_; refine AL.nil ?_) | refine AW.jt ?_ | refine AW.go ?_ | fail)
      exact AW.again_keep 0 [1, 2, 4, 5, 6, 20] (by simp [SP.m]) ⟨[0], some (a, b), _, rfl, rfl, rfl, .inr ⟨rfl, by simp, by rw [hflt]; rfl⟩⟩
    ·exact (hk1 (by simp)).elim
def swp (a b v : ByteArray) : ByteArray := bif decide (v = a) then b else v
mutual
def rnF (a b : ByteArray) : GFml → GFml
 | ⟨k, ar, nm, vars, args, kids⟩ => ⟨k, ar, nm, vars, args.map (swp a b), bif has vars a then kids else rnFs a b kids⟩
def rnFs (a b : ByteArray) : List GFml → List GFml
 | [] => []
 | x :: l => rnF a b x :: rnFs a b l
end
theorem rnFs_map (a b : ByteArray) : ∀ l : List GFml, rnFs a b l = l.map (rnF a b)
 | [] => by rw [rnFs]; rfl
 | x :: l => by rw [rnFs, rnFs_map a b l]; rfl
theorem rnV_nil (v : ByteArray) : rnV [] v = v := rfl
theorem rnV_one (a b v : ByteArray) : rnV [(a, b)] v = swp a b v := by
 rw [rnV, swp, lookA]
 cases h : decide (v = a) <;> simp_all [lookA, eq_comm]
theorem rnG_none : ∀ (N : Nat) (f : GFml), ndF f ≤ N → rnG none f = f := by
 intro N
 induction N using Nat.strongRecOn with
 | _ N ih =>
  intro f hN
  have hnd := ndF_eq f
  obtain ⟨k, ar, nm, vars, args, kids⟩ := f
  simp only at *
  rw [rnG, rnGL_map]
  have h1 : args.map (rnV (SP.m none)) = args := (List.map_congr_left (f := rnV (SP.m none)) (g := id) fun x _ => rnV_nil x).trans (List.map_id _)
  have h2 : kids.map (rnG (SP.flt none vars)) = kids := by
   refine (List.map_congr_left (g := id) fun x hx => ?_).trans (List.map_id _)
   exact ih (ndF x) (by have := ndFs_mem hx; omega) x (Nat.le_refl _)
  rw [h1, h2]
theorem rnG_some (a b : ByteArray) : ∀ (N : Nat) (f : GFml), ndF f ≤ N → rnG (some (a, b)) f = rnF a b f := by
 intro N
 induction N using Nat.strongRecOn with
 | _ N ih =>
  intro f hN
  have hnd := ndF_eq f
  obtain ⟨k, ar, nm, vars, args, kids⟩ := f
  simp only at *
  rw [rnG, rnF, rnGL_map, rnFs_map]
  have h1 : args.map (rnV (SP.m (some (a, b)))) = args.map (swp a b) := List.map_congr_left fun x _ => rnV_one a b x
  rw [h1]
  congr 1
  rw [SP.flt]
  cases has vars a with
  | true =>
   refine (List.map_congr_left (g := id) fun x hx => ?_).trans (List.map_id _)
   exact rnG_none _ x (Nat.le_refl _)
  | false => exact List.map_congr_left fun x hx => ih (ndF x) (by have := ndFs_mem hx; omega) x (Nat.le_refl _)
mutual
def erF : GFml → GFml
 | ⟨k, ar, nm, vars, args, kids⟩ => ⟨k, ar, nm, vars.map fun _ => empB, args.map fun _ => empB, erL kids⟩
def erL : List GFml → List GFml
 | [] => []
 | x :: l => erF x :: erL l
end
mutual
theorem er_nd : ∀ f : GFml, ndF (erF f) = ndF f
 | ⟨k, ar, nm, vars, args, kids⟩ => by rw [erF, ndF, ndF, er_ndL kids]
theorem er_ndL : ∀ l : List GFml, ndFs (erL l) = ndFs l
 | [] => by rw [erL]
 | x :: l => by rw [erL, ndFs, ndFs, er_nd x, er_ndL l]
end
mutual
theorem er_ct : ∀ (f : GFml) (lv : Nat), ctF (erF f) lv = ctF f lv
 | ⟨k, ar, nm, vars, args, kids⟩, lv => by rw [erF, ctF, ctF, er_ctL kids]
theorem er_ctL : ∀ (l : List GFml) (lv : Nat) (n d : Int), ctFs (erL l) lv n d = ctFs l lv n d
 | [], lv, n, d => by rw [erL]
 | x :: l, lv, n, d => by rw [erL, ctFs, ctFs, er_ct x, er_ctL l]
end
theorem er_binds (k ar : Int) (nm : ByteArray) (v1 v2 a1 a2 : List ByteArray) (k1 k2 : List GFml) : bindsB ⟨k, ar, nm, v1, a1, k1⟩ = bindsB ⟨k, ar, nm, v2, a2, k2⟩ := rfl
mutual
theorem er_pos (s : ByteArray) : ∀ (f : GFml) (odd part : Bool), posF s (erF f) odd part = posF s f odd part
 | ⟨k, ar, nm, vars, args, kids⟩, odd, part => by rw [erF, posF, posF, er_posL s kids, er_binds]
theorem er_posL (s : ByteArray) : ∀ (l : List GFml) (odd part : Bool), posFs s (erL l) odd part = posFs s l odd part
 | [], odd, part => by rw [erL]
 | x :: l, odd, part => by rw [erL, posFs, posFs, er_pos s x, er_posL s l]
end
theorem er_posH (s : ByteArray) : ∀ l : List GFml, posH s (erL l) = posH s l
 | [] => by rw [erL]
 | x :: l => by rw [erL, posH, posH, er_pos]
mutual
theorem er_gr : ∀ f : GFml, grF (erF f) = grF f
 | ⟨k, ar, nm, vars, args, kids⟩ => by rw [erF, grF, grF, er_grL kids, er_posH]
theorem er_grL : ∀ l : List GFml, grFs (erL l) = grFs l
 | [] => by rw [erL]
 | x :: l => by rw [erL, grFs, grFs, er_gr x, er_grL l]
end
mutual
theorem er_ar : ∀ (f : GFml) (b : List GSym), arF (erF f) b = arF f b
 | ⟨k, ar, nm, vars, args, kids⟩, b => by
  have h : bindsN ⟨k, ar, nm, vars.map fun _ => empB, args.map fun _ => empB, erL kids⟩ = bindsN ⟨k, ar, nm, vars, args, kids⟩ := by simp [bindsN]
  rw [erF, arF, arF, er_arL kids, er_binds k ar nm _ vars _ args _ kids, h, lM]
theorem er_arL : ∀ (l : List GFml) (b : List GSym), arFs (erL l) b = arFs l b
 | [], b => by rw [erL]
 | x :: l, b => by rw [erL, arFs, arFs, er_ar x, er_arL l]
end
mutual
theorem er_oc : ∀ (f : GFml) (bd : List ByteArray) (out : List GSym), ocF (erF f) bd out = ocF f bd out
 | ⟨k, ar, nm, vars, args, kids⟩, bd, out => by
  rw [erF, ocF, ocF, er_ocL kids, er_binds k ar nm _ vars _ args _ kids, lM]
theorem er_ocL : ∀ (l : List GFml) (bd : List ByteArray) (out : List GSym), ocFs (erL l) bd out = ocFs l bd out
 | [], bd, out => by rw [erL]
 | x :: l, bd, out => by rw [erL, ocFs, ocFs, er_oc x, er_ocL l]
end
theorem er_valid {f g : GFml} (h : erF g = erF f) (hv : validF f = true) (hs : shsF g = true) : validF g = true := by
 unfold validF at hv ⊢
 simp only [bA] at hv ⊢
 obtain ⟨⟨⟨⟨⟨h1, h2⟩, h3⟩, h4⟩, h5⟩, h6⟩ := hv
 rw [← er_ct g, ← er_ar g, ← er_gr g, ← er_oc g, h, er_ct, er_ar, er_gr, er_oc]
 exact ⟨⟨⟨⟨⟨h1, h2⟩, hs⟩, h4⟩, h5⟩, h6⟩
theorem namesG_all (l : List ByteArray) : ∀ pre, namesG true false pre l = l.all nameB := by
 induction l with
 | nil => intro pre; rfl
 | cons x l ih => intro pre; rw [namesG, ih, List.all_cons]; cases nameB x <;> rfl
theorem map_const {α β : Type} (g : α → α) (c : β) (l : List α) : (l.map g).map (fun _ => c) = l.map fun _ => c := by rw [List.map_map]; rfl
mutual
theorem rn_er (a b : ByteArray) : ∀ f : GFml, erF (rnF a b f) = erF f
 | ⟨k, ar, nm, vars, args, kids⟩ => by
  rw [rnF, erF, erF, map_const]
  cases has vars a with
  | true => rfl
  | false => rw [cond_false, rn_erL a b kids]
theorem rn_erL (a b : ByteArray) : ∀ l : List GFml, erL (rnFs a b l) = erL l
 | [] => by rw [rnFs]
 | x :: l => by rw [rnFs, erL, erL, rn_er a b x, rn_erL a b l]
end
theorem rn_len (a b : ByteArray) (l : List GFml) : (rnFs a b l).length = l.length := by rw [rnFs_map, lM]
theorem shaped_swp {k ar : Int} {nm : ByteArray} {vars args : List ByteArray} {kids kids' : List GFml} (g : ByteArray → ByteArray) (hl : kids'.length = kids.length) (hg : ∀ x, nameB x = true → nameB (g x) = true)
  (h : shapedP ⟨k, ar, nm, vars, args, kids⟩ = true) : shapedP ⟨k, ar, nm, vars, args.map g, kids'⟩ = true := by
 simp only [shapedP, shp1, shp2, shp3, bA, hl, lM, namesG_all] at h ⊢
 refine ⟨h.1, ⟨⟨h.2.1.1.1, ?_⟩, h.2.1.2⟩, h.2.2⟩
 have := h.2.1.1.2
 rw [List.all_eq_true] at this ⊢
 intro x hx
 obtain ⟨y, hy, rfl⟩ := List.mem_map.1 hx
 exact hg y (this y hy)
mutual
theorem rn_sh (a b : ByteArray) (hb : nameB b = true) : ∀ f : GFml, shsF f = true → shsF (rnF a b f) = true
 | ⟨k, ar, nm, vars, args, kids⟩, h => by
  rw [shsF, bA] at h
  rw [rnF, shsF, bA]
  have hsw : ∀ x, nameB x = true → nameB (swp a b x) = true := by
   intro x hx
   rw [swp]
   cases decide (x = a) with
   | true => exact hb
   | false => exact hx
  cases has vars a with
  | true => exact ⟨h.1, shaped_swp _ rfl hsw h.2⟩
  | false => exact ⟨rn_shL a b hb kids h.1, shaped_swp _ (rn_len a b kids) hsw h.2⟩
theorem rn_shL (a b : ByteArray) (hb : nameB b = true) : ∀ l : List GFml, shsFs l = true → shsFs (rnFs a b l) = true
 | [], h => by rw [rnFs]; rfl
 | x :: l, h => by
  rw [shsFs, bA] at h
  rw [rnFs, shsFs, rn_sh a b hb x h.1, rn_shL a b hb l h.2]; rfl
end
theorem swp_ok {a b x : ByteArray} (hb : strOk b) (hx : strOk x) : strOk (swp a b x) := by
 rw [swp]; cases decide (x = a) <;> assumption
mutual
theorem rn_ok (a b : ByteArray) (hb : strOk b) : ∀ f : GFml, f.Ok → (rnF a b f).Ok
 | ⟨k, ar, nm, vars, args, kids⟩, h => by
  obtain ⟨⟨h1, h2, h3, h4, h5⟩, h6, h7⟩ := h
  rw [rnF]
  have ha : lenOk 16 strOk (args.map (swp a b)) := ⟨by rw [lM]; exact h5.1, fun x hx => by
   obtain ⟨y, hy, rfl⟩ := List.mem_map.1 hx
   exact swp_ok hb (h5.2 y hy)⟩
  cases has vars a with
  | true => exact .mk ⟨h1, h2, h3, h4, ha⟩ h6 h7
  | false => exact .mk ⟨h1, h2, h3, h4, ha⟩ (by simp only [cond_false, rn_len]; exact h6) (rn_okL a b hb kids h7)
theorem rn_okL (a b : ByteArray) (hb : strOk b) : ∀ l : List GFml, (∀ x ∈ l, x.Ok) → ∀ y ∈ rnFs a b l, y.Ok
 | [], h, y, hy => by rw [rnFs] at hy; cases hy
 | x :: l, h, y, hy => by
  rw [rnFs] at hy
  rcases List.mem_cons.1 hy with rfl | hy
  ·exact rn_ok a b hb x (h x (by simp))
  ·exact rn_okL a b hb l (fun z hz => h z (by simp [hz])) y hy
end
mutual
theorem cp_same (a : ByteArray) : ∀ f : GFml, cpF a a f false = false
 | ⟨k, ar, nm, vars, args, kids⟩ => by
  rw [cpF, Bool.false_and, cond_false, Bool.false_or]
  cases has vars a with
  | true => rfl
  | false => exact cp_sameL a kids
theorem cp_sameL (a : ByteArray) : ∀ l : List GFml, cpL a a l false = false
 | [] => by rw [cpL]
 | x :: l => by rw [cpL, cp_same a x, cp_sameL a l]; rfl
end
def renE (a b : ByteArray) (f : GFml) : Int := bif validF f then (bif nameB a && nameB b then (bif cpF a b f false then 2 else 0) else 4) else 1
def renP (a b : ByteArray) (f : GFml) : GFml := bif renE a b f == 0 then rnF a b f else noF
theorem n_Rename (f : GFml) (a b : ByteArray) (ho : f.Ok) (oa : strOk a) (ob : strOk b) : Tri Tryz.prog 16 [f.st, .str a, .str b] [] (D (.tup [(renP a b f).st, .int .i64 (renE a b f)]) []) := by
 have hv := f_Valid f ho
 have ha := f_Name a oa
 have hb := f_Name b ob
 have hc := n_captures a b _ f false (Nat.le_refl _) ho
 have hR := fun mb g => n_rename _ f (some (a, b)) mb g (Nat.le_refl _) ho
 rw [rnG_some a b _ f (Nat.le_refl _)] at hR
 have hF := n_fit (rnF a b f) (rn_ok a b ob f ho)
 have hFv : validF f = true → nameB b = true → fitF (rnF a b f) = (rnF a b f, 0) := by
  intro h1 h2
  rw [fitF, er_valid (rn_er a b f) h1 (rn_sh a b h2 f (validF_shs h1))]; rfl
 have hsame : a = b → cpF a b f false = false := fun h => by rw [← h]; exact cp_same a f
 generalize hFF : fitF (rnF a b f) = FF at *
 unfold renP renE
 generalize rnF a b f = rn at *
 generalize cpF a b f false = CP at *
 generalize validF f = V at *
 generalize nameB a = NA at *
 generalize nameB b = NB at *
 obtain ⟨k, ar, nm, vars, args, kids⟩ := f
 cases V with
 | false =>
  refine Tri.enter 43 Tryz.func16 rfl rfl rfl rfl fun Fr w0 => ?_
  repeat' (first | (refine AW.r 0 ?_; (refine AL.d (AOp.box_ro (v := .st [.int .i64 k, .int .i64 ar, .str nm, strs vars, strs args, .sl (kids.map GFml.av)]) rfl rfl) ?_) <;> refine AL.alloc_z (t := 25) zF (by kernel_rfl) rfl rfl fun r => ?_ <;> refine AL.es 1 ?_ <;> refine AL.nil ?_) | (refine AW.r 1 ?_; refine AL.d AOp.la ?_; refine AL.d (AOp.call rfl rfl (hv.pure _)) ?_; refine xN 2 ?_) | (refine AW.r 2 ?_; refine AL.d (AOp.build (pl := [(0, 1), (1, 1), (2, 1), (3, 1), (4, 1), (5, 1)]) (z := .st [.int .i64 0, .int .i64 0, .str ⟨#[]⟩, .sl [], .sl [], .sl []]) (by kernel_rfl) rfl rfl rfl) ?_ <;> refine AL.sl 0 ?_ <;> refine AL.es 1 ?_ <;> refine AL.nil ?_) | refine AW.jt ?_ | fail)
  exact AW.retc (.cell 0 rfl rfl (by kernel_rfl) (.tmp rfl .nil)) (List.nil_sublist _) ⟨rfl, rfl⟩
 | true =>
  cases NA with
  | false =>
   refine Tri.enter 43 Tryz.func16 rfl rfl rfl rfl fun Fr w0 => ?_
   repeat' (first | (refine AW.r 0 ?_; (refine AL.d (AOp.box_ro (v := .st [.int .i64 k, .int .i64 ar, .str nm, strs vars, strs args, .sl (kids.map GFml.av)]) rfl rfl) ?_) <;> refine AL.alloc_z (t := 25) zF (by kernel_rfl) rfl rfl fun r => ?_ <;> refine AL.es 1 ?_ <;> refine AL.nil ?_) | (refine AW.r 1 ?_; refine AL.d AOp.la ?_; refine AL.d (AOp.call rfl rfl (hv.pure _)) ?_; refine xN 2 ?_) | (refine xS 3 1 ?_; refine AL.d (AOp.call rfl rfl (ha.pure _)) ?_; refine AL.es 2 ?_; refine AL.es 1 ?_; refine AL.gs ?_; refine xN 3 ?_) | (refine AW.r 4 ?_; refine AL.d (AOp.build (pl := [(0, 1), (1, 1), (2, 1), (3, 1), (4, 1), (5, 1)]) (z := .st [.int .i64 0, .int .i64 0, .str ⟨#[]⟩, .sl [], .sl [], .sl []]) (by kernel_rfl) rfl rfl rfl) ?_ <;> refine AL.sl 0 ?_ <;> refine AL.es 1 ?_ <;> refine AL.nil ?_) | refine AW.jt ?_ | refine AW.jf ?_ | fail)
   exact AW.retc (.cell 0 rfl rfl (by kernel_rfl) (.tmp rfl .nil)) (List.nil_sublist _) ⟨rfl, rfl⟩
  | true =>
  cases NB with
  | false =>
   refine Tri.enter 43 Tryz.func16 rfl rfl rfl rfl fun Fr w0 => ?_
   repeat' (first | (refine AW.r 0 ?_; (refine AL.d (AOp.box_ro (v := .st [.int .i64 k, .int .i64 ar, .str nm, strs vars, strs args, .sl (kids.map GFml.av)]) rfl rfl) ?_) <;> refine AL.alloc_z (t := 25) zF (by kernel_rfl) rfl rfl fun r => ?_ <;> refine AL.es 1 ?_ <;> refine AL.nil ?_) | (refine AW.r 1 ?_; refine AL.d AOp.la ?_; refine AL.d (AOp.call rfl rfl (hv.pure _)) ?_; refine xN 2 ?_) | (refine xS 3 1 ?_; refine AL.d (AOp.call rfl rfl (ha.pure _)) ?_; refine AL.es 2 ?_; refine AL.es 1 ?_; ((refine AL.gd ?_; (refine AL.d (AOp.call rfl rfl (hb.pure _)) ?_))) <;> refine AL.es 3 ?_ <;> refine AL.nil ?_) | (refine AW.r 4 ?_; refine AL.d (AOp.build (pl := [(0, 1), (1, 1), (2, 1), (3, 1), (4, 1), (5, 1)]) (z := .st [.int .i64 0, .int .i64 0, .str ⟨#[]⟩, .sl [], .sl [], .sl []]) (by kernel_rfl) rfl rfl rfl) ?_ <;> refine AL.sl 0 ?_ <;> refine AL.es 1 ?_ <;> refine AL.nil ?_) | refine AW.jt ?_ | refine AW.jf ?_ | fail)
   exact AW.retc (.cell 0 rfl rfl (by kernel_rfl) (.tmp rfl .nil)) (List.nil_sublist _) ⟨rfl, rfl⟩
  | true =>
   obtain rfl : FF = (rn, 0) := hFv rfl rfl
   refine Tri.enter 43 Tryz.func16 rfl rfl rfl rfl fun Fr w0 => ?_
   repeat' (first | (refine AW.r 0 ?_; (refine AL.d (AOp.box_ro (v := .st [.int .i64 k, .int .i64 ar, .str nm, strs vars, strs args, .sl (kids.map GFml.av)]) rfl rfl) ?_) <;> refine AL.alloc_z (t := 25) zF (by kernel_rfl) rfl rfl fun r => ?_ <;> refine AL.es 1 ?_ <;> refine AL.nil ?_) | (refine AW.r 1 ?_; refine AL.d AOp.la ?_; refine AL.d (AOp.call rfl rfl (hv.pure _)) ?_; refine xN 2 ?_) | (refine xS 3 1 ?_; refine AL.d (AOp.call rfl rfl (ha.pure _)) ?_; refine AL.es 2 ?_; refine AL.es 1 ?_; ((refine AL.gd ?_; (refine AL.d (AOp.call rfl rfl (hb.pure _)) ?_))) <;> refine AL.es 3 ?_ <;> refine AL.nil ?_) | refine AW.jf ?_ | refine AW.go ?_ | fail)
   refine AW.cut (fun af ah => af = [(1, .str a), (2, .str b), (3, .at (.st [.int .i64 k, .int .i64 ar, .str nm, strs vars, strs args, .sl (kids.map GFml.av)])), (6, .ref r 0), (23, .bool CP)] ∧ ah = [.box r zF]) ?_ ?_
   ·repeat' (first | (refine xS 5 4 ?_; ((refine AL.gx (fun hb => ?_) (fun hb => ?_) <;> first | (refine AL.gd ?_; (refine AL.d AOp.la ?_)) | refine AL.gs ?_)) <;> refine AL.es 2 ?_ <;> (first | (refine AL.gd ?_; refine AL.d (AOp.call rfl rfl (hc.pure _)) ?_) | refine AL.gs ?_) <;> refine AL.es 2 ?_ <;> refine AL.nil ?_) | fail)
    ·exact AW.meet [1, 2, 3, 6, 23] ⟨rfl, rfl⟩
    ·have hab : a = b := by
      rw [toList_beq] at hb
      simpa using hb
     rw [hsame hab]
     exact AW.meet [1, 2, 3, 6, 23] ⟨rfl, rfl⟩
   ·rintro af ah ⟨rfl, rfl⟩
    cases CP with
    | true =>
     repeat' (first | (refine AW.r 6 ?_; refine AL.d (AOp.build (pl := [(0, 1), (1, 1), (2, 1), (3, 1), (4, 1), (5, 1)]) (z := .st [.int .i64 0, .int .i64 0, .str ⟨#[]⟩, .sl [], .sl [], .sl []]) (by kernel_rfl) rfl rfl rfl) ?_ <;> refine AL.sl 0 ?_ <;> refine AL.es 1 ?_ <;> refine AL.nil ?_) | refine AW.jt ?_ | fail)
     exact AW.retc (.cell 0 rfl rfl (by kernel_rfl) (.tmp rfl .nil)) (List.nil_sublist _) ⟨rfl, rfl⟩
    | false =>
     have hR' : ∀ mb g, Tri Tryz.prog 58 [GFml.st ⟨k, ar, nm, vars, args, kids⟩, .map mb] [.map mb [(.str a, .str b)] g, .box r zF] (D rn.st [.map mb [(.str a, .str b)] g, .box r zF]) := fun mb g => Tri.frameD (ah := [_, _]) [true] (hR mb g)
     repeat' (first | (refine AW.r 7 ?_; refine AL.d AOp.la ?_; refine AL.makeMap rfl fun bm => ?_; refine AL.es 2 ?_; refine AL.insert (i := 0) (kd := .string) (e := 9) rfl rfl rfl rfl (by kernel_rfl) rfl rfl ?_; refine AL.es 1 ?_; refine AL.d (AOp.call rfl rfl (hR' _ _)) ?_; refine AL.d (AOp.call rfl rfl (hF.pure _)) ?_; refine AL.es 2 ?_; refine AL.sl 1 ?_; refine xN 1 ?_) | refine AW.jf ?_ | fail)
     exact AW.retc (.cell 1 rfl rfl (by kernel_rfl) (.tmp rfl .nil)) (List.nil_sublist _) ⟨rfl, rfl⟩
end Go.Proofs.YtlpndgodkkndnaaGreatDoor
namespace Go.Proofs
open Go.Shelf
end Go.Proofs
namespace Go.Proofs.YtlpndgodkkndnaaGreatDoor
open Go.RowKit Go.SX
set_option maxRecDepth 100000
set_option maxHeartbeats 4000000
set_option linter.unusedVariables false
set_option linter.unusedSimpArgs false
theorem has_mem {l : List ByteArray} {s : ByteArray} : has l s = true ↔ s ∈ l := by
 unfold has
 rw [List.any_eq_true]
 constructor
 ·rintro ⟨x, hx, h⟩
  rw [← of_decide_eq_true h]; exact hx
 ·intro h; exact ⟨s, h, by simp⟩
theorem has_not {l : List ByteArray} {s : ByteArray} : has l s = false ↔ s ∉ l := by
 rw [← has_mem, Bool.not_eq_true]
abbrev Sb := ByteArray → Option ByteArray
def rnS (σ : Sb) (v : ByteArray) : ByteArray := (σ v).getD v
def up1 (σ : Sb) (v w : ByteArray) : Sb := fun x => if x = v then some w else σ x
theorem lookA_none {α : Type} {A : List (ByteArray × α)} {k : ByteArray} : lookA A k = none ↔ k ∉ A.map (·.1) := by
 induction A with
 | nil => simp [lookA]
 | cons p A ih =>
  obtain ⟨k', v⟩ := p
  rw [lookA, List.map_cons, List.mem_cons, not_or]
  by_cases e : k = k'
  ·subst e; simp
  ·rw [if_neg e, ih]; exact ⟨fun h => ⟨e, h⟩, fun h => h.2⟩
theorem lookA_some {α : Type} {A : List (ByteArray × α)} {k : ByteArray} {v : α} (hn : (A.map (·.1)).Nodup) : lookA A k = some v ↔ (k, v) ∈ A := by
 induction A with
 | nil => simp [lookA]
 | cons p A ih =>
  obtain ⟨k', w⟩ := p
  rw [List.map_cons, List.nodup_cons] at hn
  rw [lookA, List.mem_cons]
  by_cases e : k = k'
  ·subst e
   rw [if_pos rfl]
   constructor
   ·intro h; rw [Option.some.inj h]; exact .inl rfl
   ·rintro (h | h)
    ·rw [(Prod.mk.inj h).2]
    ·exact (hn.1 (List.mem_map.2 ⟨_, h, rfl⟩)).elim
  ·rw [if_neg e, ih hn.2]
   exact ⟨.inr, fun h => h.elim (fun h => (e (Prod.mk.inj h).1).elim) id⟩
theorem nodup_injA {α : Type} {l : List α} (h : l.Nodup) (i j : Nat) (hi : i < l.length) (hj : j < l.length) (e : l[i] = l[j]) : i = j := by
 rcases Nat.lt_trichotomy i j with h1 | h1 | h1
 ·exact absurd e (List.pairwise_iff_getElem.1 h i j hi hj h1)
 ·exact h1
 ·exact absurd e.symm (List.pairwise_iff_getElem.1 h j i hj hi h1)
def CopyOf {α : Type} (M A : List (ByteArray × α)) (idx : List Nat) : Prop := (A.map (·.1)).Nodup ∧ ∀ k v, (k, v) ∈ A ↔ ∃ j ∈ idx, M[j]? = some (k, v)
theorem CopyOf.step {α : Type} {M A : List (ByteArray × α)} {idx : List Nat} (hM : (M.map (·.1)).Nodup) (h : CopyOf M A idx) {j : Nat} {k : ByteArray} {v : α} (hj : j ∉ idx) (hk : M[j]? = some (k, v)) : CopyOf M (setA A k v) (idx ++ [j]) := by
 have hno : k ∉ A.map (·.1) := by
  intro hm
  obtain ⟨⟨k', v'⟩, hp, rfl⟩ := List.mem_map.1 hm
  obtain ⟨j', hj', hk'⟩ := (h.2 _ _).1 hp
  have h1 := (List.getElem?_eq_some_iff.1 hk).1
  have h2 := (List.getElem?_eq_some_iff.1 hk').1
  have : j = j' := nodup_injA hM j j' (by simpa using h1) (by simpa using h2) (by
   have e1 : (M.map (·.1))[j]? = some k' := by rw [List.getElem?_map, hk]; rfl
   have e2 : (M.map (·.1))[j']? = some k' := by rw [List.getElem?_map, hk']; rfl
   rw [List.getElem?_eq_getElem (by simpa using h1)] at e1
   rw [List.getElem?_eq_getElem (by simpa using h2)] at e2
   exact (Option.some.inj e1).trans (Option.some.inj e2).symm)
  exact hj (this ▸ hj')
 rw [setA_miss (lookA_none.2 hno)]
 refine ⟨?_, fun k' v' => ?_⟩
 ·rw [List.map_append, List.nodup_append]
  refine ⟨h.1, by simp, ?_⟩
  rintro a ha b hb rfl
  simp only [List.map_cons, List.map_nil, List.mem_singleton] at hb
  subst hb; exact hno ha
 ·rw [List.mem_append, h.2, List.mem_singleton]
  constructor
  ·rintro (⟨j', hj', e⟩ | e)
   ·exact ⟨j', List.mem_append_left _ hj', e⟩
   ·exact ⟨j, by simp, by rw [hk, e]⟩
  ·rintro ⟨j', hj', e⟩
   rcases List.mem_append.1 hj' with hj' | hj'
   ·exact .inl ⟨j', hj', e⟩
   ·rw [List.mem_singleton.1 hj', hk] at e
    exact .inr (Option.some.inj e).symm
theorem CopyOf.all {α : Type} {M A : List (ByteArray × α)} {idx : List Nat} (hM : (M.map (·.1)).Nodup) (h : CopyOf M A idx) (ha : ∀ j, j < M.length → j ∈ idx) (v : ByteArray) : lookA A v = lookA M v := by
 have key : ∀ w, lookA A v = some w ↔ lookA M v = some w := fun w => by
  rw [lookA_some h.1, lookA_some hM, h.2]
  constructor
  ·rintro ⟨j, _, e⟩; exact lG e
  ·intro hm
   obtain ⟨j, hj⟩ := List.getElem?_of_mem hm
   exact ⟨j, ha j (List.getElem?_eq_some_iff.1 hj).1, hj⟩
 cases h1 : lookA A v with
 | none =>
  cases h2 : lookA M v with
  | none => rfl
  | some w => rw [(key w).2 h2] at h1; cases h1
 | some w => rw [(key w).1 h1]
theorem tailD {P : Program} {f : FuncId} {args : List AV} {b b' : AH} {v : AV} (h : Tri P f args b (D v b')) (a : AH) : Tri P f args (a ++ b) (D v (a ++ b')) := by
 have := h.aroundD a []
 simpa using this
theorem permPre {P : Program} {f : FuncId} {args : List AV} {ah ah' : AH} {Φ : AEnd → AH → Prop} (h : Tri P f args ah Φ) (p : ah'.Perm ah) : Tri P f args ah' Φ :=
 ⟨h.1, fun Fr w vs hst hrel => (h.2 Fr w vs (hst.perm p) (RelVs.mv (Mv.same w fun b o hs => hs.elim .inl fun h' => .inr ((reg_perm p).2 h')) _ _ hrel)).mono fun e w' he => he.perm fun b o => reg_perm p.symm⟩
def plN (l : List ByteArray) (s : ByteArray) : Nat → Int
 | 0 => -1
 | i + 1 => if l[i]? = some s then (i : Int) else plN l s i
def plc (l : List ByteArray) (s : ByteArray) : Int := plN l s l.length
def lessB (s t : ByteArray) : Bool := Op.bytesLess s.toList t.toList
def risP : List ByteArray → ByteArray → List ByteArray
 | [], s => [s]
 | x :: l, s => if lessB x s = true then x :: risP l s else if x = s then x :: l else s :: x :: l
theorem risP_len : ∀ (l : List ByteArray) (s : ByteArray), (risP l s).length ≤ l.length + 1
 | [], s => by simp [risP]
 | x :: l, s => by
  have := risP_len l s
  rw [risP]; split
  ·simp; omega
  ·split <;> simp
theorem risP_mem : ∀ (l : List ByteArray) (s x : ByteArray), x ∈ risP l s ↔ x = s ∨ x ∈ l
 | [], s, x => by simp [risP]
 | y :: l, s, x => by
  have := risP_mem l s x
  rw [risP]; split
  ·simp only [List.mem_cons, this]; constructor
   ·rintro (h | h | h) <;> simp [h]
   ·rintro (h | h | h) <;> simp [h]
  ·split
   ·rename_i h; subst h; simp
   ·simp
theorem str_sz (l : List ByteArray) : ∀ x ∈ l.map AV.str, x.size = 1 := all_map fun _ => rfl
theorem ref_sorted (l : List ByteArray) (s : ByteArray) (hl : l.length ≤ 1000000) : Tri Tryz.prog 61 [strs l, .str s] [] (D (strs (risP l s)) []) := by
 refine Tri.enter 45 Tryz.func61 rfl rfl rfl rfl fun Fr w0 => ?_
 repeat' (first | refine AW.re 0 1 ?_ | refine AW.re 1 1 ?_ | refine AW.go ?_ | fail)
 refine AW.prune [0, 1, 5] (AW.loop (fun mz af h => ∃ (i : Nat), i ≤ l.length ∧ mz = l.length - i ∧ af = [(0, strs l), (1, .str s), (5, .int .i64 i)] ∧ h = [] ∧ risP l s = l.take i ++ risP (l.drop i) s) l.length ⟨0, Nat.zero_le _, rfl, rfl, rfl, rfl⟩ ?_)
 rintro mz af h ⟨i, hi, rfl, rfl, rfl, he⟩
 refine AW.seq ?_
 by_cases hlt : i < l.length
 ·obtain ⟨x, hx⟩ := get_lt hlt
  have hx' : (l.map AV.str)[((i : Nat) : Int).toNat]? = some (.str x) := map_get hx
  have htk : l.take (i + 1) = l.take i ++ [x] := by rw [List.take_add_one, hx]; rfl
  rw [drop_cons hx, risP] at he
  change risP l s = l.take i ++ if Op.bytesLess x.toList s.toList = true then x :: risP (l.drop (i + 1)) s else if x = s then x :: l.drop (i + 1) else s :: x :: l.drop (i + 1) at he
  cases hlb : Op.bytesLess x.toList s.toList with
  | true =>
   rw [hlb] at he
   repeat' (first | (refine xS 2 5 ?_; ((refine AL.gx (fun hb => ?_) (fun hb => ?_) <;> refine AL.es 2 ?_)) <;> (first | (refine AL.gd ?_; refine AL.d (iX hx') ?_) | refine AL.gs ?_) <;> refine AL.es 4 ?_ <;> refine AL.nil ?_) | (refine xS 3 1 ?_; refine AL.d AOp.ad ?_; refine xN 1 ?_) | refine AW.jf ?_ | refine AW.jj (fun hb => ?_) (fun hb => ?_) | refine AW.go ?_ | fail)
   all_goals try (exfalso; simp only [dT, dF, lM] at *; omega)
   all_goals try (rw [hlb] at hb; cases hb; done)
   refine AW.again_keep (l.length - (i + 1)) [0, 1, 5] (by omega) ⟨i + 1, hlt, rfl, rfl, rfl, ?_⟩
   rw [he, if_pos rfl, htk]; simp
  | false =>
   rw [hlb] at he
   repeat' (first | (refine xS 2 5 ?_; ((refine AL.gx (fun hb => ?_) (fun hb => ?_) <;> refine AL.es 2 ?_)) <;> (first | (refine AL.gd ?_; refine AL.d (iX hx') ?_) | refine AL.gs ?_) <;> refine AL.es 4 ?_ <;> refine AL.nil ?_) | (refine xS 4 5 ?_; ((refine AL.gx (fun hb => ?_) (fun hb => ?_) <;> refine AL.es 2 ?_)) <;> (first | (refine AL.gd ?_; refine AL.d (iX hx') ?_) | refine AL.gs ?_) <;> refine AL.es 4 ?_ <;> refine AL.nil ?_) | refine AW.re 5 2 ?_ | refine AW.jf ?_ | refine AW.jj (fun hb => ?_) (fun hb => ?_) | refine AW.go ?_ | fail)
   all_goals try (exfalso; simp only [dT, dF, lM] at *; omega)
   all_goals try (rw [hlb] at hb; cases hb; done)
   ·rw [toList_beq, dT] at hb
    rw [if_neg (by simp), if_pos hb, ← drop_cons hx, List.take_append_drop] at he
    exact AW.retv rfl ⟨by rw [he], rfl⟩
   ·rw [toList_beq, dF] at hb
    rw [if_neg (by simp), if_neg hb] at he
    repeat' (first | (refine AW.ex 6 [] [0, 4, 7, 11, 12] ?_; refine AQE.hl ?_; refine AQE.e ?_; refine AQE.e ?_; ((refine AQE.p rfl (AOp.cut (sz := 1) rfl rfl (by kernel_rfl) (str_sz _) bndIs.none (bndIs.some (n := i) rfl (by omega)) (by omega) (by simp; omega)) ?_)) <;> refine AQE.hl ?_ <;> refine AQE.e ?_ <;> refine AQE.p rfl (AOp.lit (e := 9) (sz := 1) (by kernel_rfl) rfl rfl rfl (P_one rfl) (by decide)) ?_ <;> refine AQE.hl ?_ <;> refine AQE.e ?_ <;> refine AQE.e ?_ <;> ((refine AQE.p rfl (AOp.cut (sz := 1) rfl rfl (by kernel_rfl) (str_sz _) (bndIs.some (n := i) rfl (by omega)) bndIs.none (by simp; omega) (by omega)) ?_)) <;> refine AQE.hl ?_ <;> refine AQE.hl ?_ <;> refine AQE.nil ?_ <;> refine AX.o (n := 4) 0 ?_ <;> (refine AXO.lit_own (e := 9) (sz := 1) (by kernel_rfl) rfl rfl rfl P_nil (by decide) fun b0 => ?_) <;> try dsimp only [sA, sB, sC, sD] <;> refine AX.o (n := 3) 4 ?_ <;> refine AXO.append (i := 0) (e := 9) (sz := 1) (bytes := 16) rfl rfl rfl rfl (by kernel_rfl) (by kernel_rfl) (by repeat' (exact P_nil)) (by repeat' (first | refine P_take ?_ | exact P_map fun _ => rfl)) (ok_all (by repeat' (first | refine P_take ?_ | exact P_map fun _ => rfl))) (by (try simp only [lA, lM, List.length_take, List.length_drop, List.length_cons, List.length_nil, List.length_replicate]); omega) (by (try simp only [lA, lM, List.length_take, List.length_drop, List.length_cons, List.length_nil, List.length_replicate]); omega) rfl fun b' c' => ?_ <;> try dsimp only [sA, sB, sC, sD] <;> refine AX.o (n := 2) 7 ?_ <;> refine AXO.append (i := 0) (e := 9) (sz := 1) (bytes := 16) rfl rfl rfl rfl (by kernel_rfl) (by kernel_rfl) (by repeat' (first | exact P_nil | refine P_app ?_ ?_ | refine P_take ?_ | exact P_map fun _ => rfl)) (by repeat' (exact P_one rfl)) (ok_all (by repeat' (exact P_one rfl))) (by (try simp only [lA, lM, List.length_take, List.length_drop, List.length_cons, List.length_nil, List.length_replicate]); omega) (by (try simp only [lA, lM, List.length_take, List.length_drop, List.length_cons, List.length_nil, List.length_replicate]); omega) rfl fun b' c' => ?_ <;> try dsimp only [sA, sB, sC, sD] <;> refine AX.o (n := 1) 11 ?_ <;> refine AXO.append (i := 0) (e := 9) (sz := 1) (bytes := 16) rfl rfl rfl rfl (by kernel_rfl) (by kernel_rfl) (by repeat' (first | exact P_nil | refine P_app ?_ ?_ | refine P_take ?_ | exact P_map fun _ => rfl | exact P_one rfl)) (by repeat' (first | refine P_take ?_ | refine P_drop ?_ | exact P_map fun _ => rfl)) (ok_all (by repeat' (first | refine P_take ?_ | refine P_drop ?_ | exact P_map fun _ => rfl))) (by (try simp only [lA, lM, List.length_take, List.length_drop, List.length_cons, List.length_nil, List.length_replicate]); omega) (by (try simp only [lA, lM, List.length_take, List.length_drop, List.length_cons, List.length_nil, List.length_replicate]); omega) rfl fun b' c' => ?_ <;> try dsimp only [sA, sB, sC, sD] <;> refine AX.o (n := 0) 12 ?_ <;> refine AXO.e ?_ <;> try dsimp only [sA, sB, sC, sD] <;> refine AX.done_keep [0, 1, 4, 5, 6, 7, 8, 9, 10, 11, 12, 13, 14, 15, 16, 17, 18, 19, 20, 21, 22, 23, 24, 25, 26, 27, 28, 29, 30, 31, 32] ?_) | fail)
    refine AW.as_sl 4 rfl ?_
    refine AW.ret_drop rfl (List.nil_sublist _) ⟨?_, rfl⟩
    rw [he]
    show AEnd.ret (AV.sl _) = AEnd.ret (AV.sl _)
    congr 2
    rw [← drop_cons hx, List.take_of_length_le (show (l.map AV.str).length ≤ (l.map AV.str).length from Nat.le_refl _)]
    simp [List.map_take, List.map_drop]
 ·rw [List.drop_eq_nil_of_le (by omega), risP] at he
  repeat' (first | (refine xS 2 5 ?_; ((refine AL.gx (fun hb => ?_) (fun hb => ?_) <;> refine AL.es 2 ?_)) <;> (first | (refine AL.gd ?_; (exfalso; simp only [dT, dF, lM, bne_iff_ne, ne_eq, bne_eq_false_iff_eq, beq_iff_eq, beq_eq_false_iff_ne] at *; omega)) | refine AL.gs ?_) <;> refine AL.es 4 ?_ <;> refine AL.nil ?_) | (refine xS 4 5 ?_; ((refine AL.gx (fun hb => ?_) (fun hb => ?_) <;> refine AL.es 2 ?_)) <;> (first | (refine AL.gd ?_; (exfalso; simp only [dT, dF, lM, bne_iff_ne, ne_eq, bne_eq_false_iff_eq, beq_iff_eq, beq_eq_false_iff_ne] at *; omega)) | refine AL.gs ?_) <;> refine AL.es 4 ?_ <;> refine AL.nil ?_) | refine AW.jf ?_ | refine AW.go ?_ | fail)
  all_goals try (exfalso; simp only [dT, dF, lM] at *; omega)
  repeat' (first | (refine AW.ex 6 [] [0, 4, 7, 11, 12] ?_; refine AQE.hl ?_; refine AQE.e ?_; refine AQE.e ?_; ((refine AQE.p rfl (AOp.cut (sz := 1) rfl rfl (by kernel_rfl) (str_sz _) bndIs.none (bndIs.some (n := i) rfl (by omega)) (by omega) (by simp; omega)) ?_)) <;> refine AQE.hl ?_ <;> refine AQE.e ?_ <;> refine AQE.p rfl (AOp.lit (e := 9) (sz := 1) (by kernel_rfl) rfl rfl rfl (P_one rfl) (by decide)) ?_ <;> refine AQE.hl ?_ <;> refine AQE.e ?_ <;> refine AQE.e ?_ <;> ((refine AQE.p rfl (AOp.cut (sz := 1) rfl rfl (by kernel_rfl) (str_sz _) (bndIs.some (n := i) rfl (by omega)) bndIs.none (by simp; omega) (by omega)) ?_)) <;> refine AQE.hl ?_ <;> refine AQE.hl ?_ <;> refine AQE.nil ?_ <;> refine AX.o (n := 4) 0 ?_ <;> (refine AXO.lit_own (e := 9) (sz := 1) (by kernel_rfl) rfl rfl rfl P_nil (by decide) fun b0 => ?_) <;> try dsimp only [sA, sB, sC, sD] <;> refine AX.o (n := 3) 4 ?_ <;> refine AXO.append (i := 0) (e := 9) (sz := 1) (bytes := 16) rfl rfl rfl rfl (by kernel_rfl) (by kernel_rfl) (by repeat' (exact P_nil)) (by repeat' (first | refine P_take ?_ | exact P_map fun _ => rfl)) (ok_all (by repeat' (first | refine P_take ?_ | exact P_map fun _ => rfl))) (by (try simp only [lA, lM, List.length_take, List.length_drop, List.length_cons, List.length_nil, List.length_replicate]); omega) (by (try simp only [lA, lM, List.length_take, List.length_drop, List.length_cons, List.length_nil, List.length_replicate]); omega) rfl fun b' c' => ?_ <;> try dsimp only [sA, sB, sC, sD] <;> refine AX.o (n := 2) 7 ?_ <;> refine AXO.append (i := 0) (e := 9) (sz := 1) (bytes := 16) rfl rfl rfl rfl (by kernel_rfl) (by kernel_rfl) (by repeat' (first | exact P_nil | refine P_app ?_ ?_ | refine P_take ?_ | exact P_map fun _ => rfl)) (by repeat' (exact P_one rfl)) (ok_all (by repeat' (exact P_one rfl))) (by (try simp only [lA, lM, List.length_take, List.length_drop, List.length_cons, List.length_nil, List.length_replicate]); omega) (by (try simp only [lA, lM, List.length_take, List.length_drop, List.length_cons, List.length_nil, List.length_replicate]); omega) rfl fun b' c' => ?_ <;> try dsimp only [sA, sB, sC, sD] <;> refine AX.o (n := 1) 11 ?_ <;> refine AXO.append (i := 0) (e := 9) (sz := 1) (bytes := 16) rfl rfl rfl rfl (by kernel_rfl) (by kernel_rfl) (by repeat' (first | exact P_nil | refine P_app ?_ ?_ | refine P_take ?_ | exact P_map fun _ => rfl | exact P_one rfl)) (by repeat' (first | refine P_take ?_ | refine P_drop ?_ | exact P_map fun _ => rfl)) (ok_all (by repeat' (first | refine P_take ?_ | refine P_drop ?_ | exact P_map fun _ => rfl))) (by (try simp only [lA, lM, List.length_take, List.length_drop, List.length_cons, List.length_nil, List.length_replicate]); omega) (by (try simp only [lA, lM, List.length_take, List.length_drop, List.length_cons, List.length_nil, List.length_replicate]); omega) rfl fun b' c' => ?_ <;> try dsimp only [sA, sB, sC, sD] <;> refine AX.o (n := 0) 12 ?_ <;> refine AXO.e ?_ <;> try dsimp only [sA, sB, sC, sD] <;> refine AX.done_keep [0, 1, 4, 5, 6, 7, 8, 9, 10, 11, 12, 13, 14, 15, 16, 17, 18, 19, 20, 21, 22, 23, 24, 25, 26, 27, 28, 29, 30, 31, 32] ?_) | fail)
  refine AW.as_sl 4 rfl ?_
  refine AW.ret_drop rfl (List.nil_sublist _) ⟨?_, rfl⟩
  rw [he]
  show AEnd.ret (AV.sl _) = AEnd.ret (AV.sl _)
  congr 2
  have : i = l.length := by omega
  subst this
  simp [List.take_of_length_le]
mutual
def frF : GFml → List ByteArray
 | ⟨_, _, _, vars, args, kids⟩ => frA args (frLs vars kids [])
def frLs : List ByteArray → List GFml → List ByteArray → List ByteArray
 | _, [], out => out
 | vars, x :: l, out => frLs vars l (frV vars (frF x) out)
def frV : List ByteArray → List ByteArray → List ByteArray → List ByteArray
 | _, [], out => out
 | vars, v :: l, out => frV vars l (bif has vars v then out else risP out v)
def frA : List ByteArray → List ByteArray → List ByteArray
 | [], out => out
 | v :: l, out => frA l (risP out v)
end
mutual
def agF : GFml → List ByteArray
 | ⟨_, _, _, _, args, kids⟩ => args ++ agL kids
def agL : List GFml → List ByteArray
 | [] => []
 | x :: l => agF x ++ agL l
end
theorem frV_len (vars : List ByteArray) : ∀ l out : List ByteArray, (frV vars l out).length ≤ out.length + l.length
 | [], out => by rw [frV]; simp
 | v :: l, out => by
  have h1 := frV_len vars l (bif has vars v then out else risP out v)
  have h2 := risP_len out v
  rw [frV, List.length_cons]
  cases hv : has vars v with
  | true => rw [hv] at h1; simp only [cond_true] at h1 ⊢; omega
  | false => rw [hv] at h1; simp only [cond_false] at h1 ⊢; omega
theorem frA_len : ∀ l out : List ByteArray, (frA l out).length ≤ out.length + l.length
 | [], out => by rw [frA]; simp
 | v :: l, out => by
  have h1 := frA_len l (risP out v)
  have h2 := risP_len out v
  rw [frA, List.length_cons]; omega
mutual
theorem frF_len : ∀ f : GFml, (frF f).length ≤ (agF f).length
 | ⟨k, ar, nm, vars, args, kids⟩ => by
  have h1 := frLs_len vars kids []
  have h2 := frA_len args (frLs vars kids [])
  rw [frF, agF, lA]
  rw [List.length_nil] at h1; omega
theorem frLs_len (vars : List ByteArray) : ∀ (l : List GFml) (out : List ByteArray), (frLs vars l out).length ≤ out.length + (agL l).length
 | [], out => by rw [frLs]; omega
 | x :: l, out => by
  have h0 := frF_len x
  have h1 := frV_len vars (frF x) out
  have h2 := frLs_len vars l (frV vars (frF x) out)
  rw [frLs, agL, lA]; omega
end
theorem agL_app : ∀ a b : List GFml, agL (a ++ b) = agL a ++ agL b
 | [], b => by rw [List.nil_append, agL]; rfl
 | x :: a, b => by rw [List.cons_append, agL, agL, agL_app a b, List.append_assoc]
theorem ref_Free : ∀ (N : Nat) (f : GFml), ndF f ≤ N → f.Ok → (agF f).length ≤ 1000000 → Tri Tryz.prog 21 [f.st] [] (D (strs (frF f)) []) := by
 intro N
 induction N using Nat.strongRecOn with
 | _ N ih =>
  intro f hN ho hlen
  have hnd := ndF_eq f
  obtain ⟨⟨_, _, _, q4, q5⟩, q6, q7⟩ := ho
  have l4 := q4.1
  have l5 := q5.1
  obtain ⟨k, ar, nm, vars, args, kids⟩ := f
  rw [agF, lA] at hlen
  rw [frF]
  simp only at *
  refine Tri.enter 56 Tryz.func21 rfl rfl rfl rfl fun Fr w0 => ?_
  repeat' (first | (refine AW.r 0 ?_; (refine AL.d (AOp.box_ro (v := .st [.int .i64 k, .int .i64 ar, .str nm, strs vars, strs args, .sl (kids.map GFml.av)]) rfl rfl) ?_) <;> refine AL.es 1 ?_ <;> refine AL.nil ?_) | refine AW.re 1 1 ?_ | refine AW.re 2 1 ?_ | refine AW.go ?_ | fail)
  refine AW.prune [1, 3, 4] (AW.loop (fun mz af h => ∃ (i : Nat) (o : List ByteArray), i ≤ kids.length ∧ mz = kids.length - i ∧ af = [(1, .at (.st [.int .i64 k, .int .i64 ar, .str nm, strs vars, strs args, .sl (kids.map GFml.av)])), (3, strs o), (4, .int .i64 i)] ∧ h = [] ∧ (frLs vars kids [] = frLs vars (kids.drop i) o ∧ o.length ≤ (agL (kids.take i)).length)) kids.length ⟨0, [], Nat.zero_le _, rfl, rfl, rfl, ⟨rfl, by simp⟩⟩ ?_)
  rintro mz af h ⟨i, o, hi, rfl, rfl, rfl, he⟩
  refine AW.seq ?_
  by_cases hlt : i < kids.length
  ·obtain ⟨he, hol⟩ := he
   obtain ⟨x, hx⟩ := get_lt hlt
   have hx' : (kids.map GFml.av)[((i : Nat) : Int).toNat]? = some (x.st) := GFml.get hx
   have hxm := lG hx
   have hnx := ndFs_mem hxm
   have htk : agL (kids.take (i + 1)) = agL (kids.take i) ++ agF x := by rw [List.take_add_one, hx, agL_app]; simp [agL]
   have hle : (agL kids).length = (agL (kids.take (i + 1))).length + (agL (kids.drop (i + 1))).length := by rw [← lA, ← agL_app, List.take_append_drop]
   rw [htk, lA] at hle
   have hfl := frF_len x
   have hc := ih (ndF x) (by omega) x (Nat.le_refl _) (q7 x hxm) (by omega)
   rw [drop_cons hx, frLs] at he
   generalize frF x = fx at *
   repeat' (first | refine AW.re 3 5 ?_ | refine AW.jj (fun hb => ?_) (fun hb => ?_) | refine AW.go ?_ | fail)
   all_goals try (exfalso; simp only [dT, dF, lM] at *; omega)
   repeat' (first | (refine xS 5 3 ?_; refine AL.d (iX hx') ?_; refine AL.es 1 ?_; refine AL.d (AOp.call rfl rfl hc) ?_; refine xN 1 ?_) | refine AW.re 6 1 ?_ | refine AW.go ?_ | fail)
   obtain ⟨I0, hI0⟩ : ∃ j : Nat, j = i := ⟨i, rfl⟩
   subst hI0
   have hlt0 := hlt
   have he0 := he
   refine AW.prune [1, 3, 4, 5, 6] (AW.loop (fun mz af h => ∃ (i : Nat) (o2 : List ByteArray), i ≤ fx.length ∧ mz = fx.length - i ∧ af = [(1, .at (.st [.int .i64 k, .int .i64 ar, .str nm, strs vars, strs args, .sl (kids.map GFml.av)])), (3, strs o2), (4, .int .i64 I0), (5, strs fx), (6, .int .i64 i)] ∧ h = [] ∧ (frV vars fx o = frV vars (fx.drop i) o2 ∧ o2.length ≤ o.length + i)) fx.length ⟨0, o, Nat.zero_le _, rfl, rfl, rfl, ⟨rfl, by omega⟩⟩ ?_)
   rintro mz af h ⟨i, o2, hi, rfl, rfl, rfl, he⟩
   refine AW.seq ?_
   by_cases hlt : i < fx.length
   ·obtain ⟨he, hol2⟩ := he
    obtain ⟨v, hv⟩ := get_lt hlt
    have hv' : (fx.map AV.str)[((i : Nat) : Int).toNat]? = some (.str v) := map_get hv
    have hM := Among_has vars (by omega) v
    have hS := ref_sorted o2 v (by omega)
    have hsl := risP_len o2 v
    rw [drop_cons hv, frV] at he
    generalize risP o2 v = o3 at *
    cases hh : has vars v with
    | true =>
     rw [hh] at hM he
     repeat' (first | refine AW.re 7 4 ?_ | (refine AW.dq 9 ?_; refine AQ.es 4 ?_; refine AQ.p rfl (iX hv') ?_; refine AQ.es 1 ?_; refine AQ.p rfl (AOp.call rfl rfl hM) ?_; refine AQ.es 1 ?_; refine AQ.nil ?_) | (refine xS 8 1 ?_; refine AL.d AOp.ad ?_; refine xN 1 ?_) | refine AW.jf ?_ | refine AW.jj (fun hb => ?_) (fun hb => ?_) | refine AW.go ?_ | fail)
     all_goals try (exfalso; simp only [dT, dF, lM] at *; omega)
     refine AW.again_keep (fx.length - (i + 1)) [1, 3, 4, 5, 6] (by omega) ⟨i + 1, o2, hlt, rfl, rfl, rfl, ?_⟩
     exact ⟨he, by omega⟩
    | false =>
     rw [hh] at hM he
     repeat' (first | refine AW.re 7 4 ?_ | (refine AW.dq 9 ?_; refine AQ.es 4 ?_; refine AQ.p rfl (iX hv') ?_; refine AQ.es 1 ?_; refine AQ.p rfl (AOp.call rfl rfl hM) ?_; refine AQ.es 1 ?_; refine AQ.nil ?_) | (refine xS 10 3 ?_; refine AL.d (iX hv') ?_; refine AL.es 1 ?_; refine AL.d (AOp.call rfl rfl hS) ?_; refine xN 1 ?_) | (refine xS 8 1 ?_; refine AL.d AOp.ad ?_; refine xN 1 ?_) | refine AW.jt ?_ | refine AW.jj (fun hb => ?_) (fun hb => ?_) | refine AW.go ?_ | fail)
     all_goals try (exfalso; simp only [dT, dF, lM] at *; omega)
     refine AW.again_keep (fx.length - (i + 1)) [1, 3, 4, 5, 6] (by omega) ⟨i + 1, o3, hlt, rfl, rfl, rfl, ?_⟩
     exact ⟨he, by omega⟩
   ·obtain ⟨he, hol2⟩ := he
    rw [List.drop_eq_nil_of_le (by omega), frV] at he
    rw [he] at he0
    repeat' (first | refine AW.re 7 4 ?_ | refine AW.jj (fun hb => ?_) (fun hb => ?_) | refine AW.go ?_ | fail)
    all_goals try (exfalso; simp only [dT, dF, lM] at *; omega)
    repeat' (first | (refine xS 4 1 ?_; refine AL.d AOp.ad ?_; refine xN 1 ?_) | fail)
    exact AW.again_keep (kids.length - (I0 + 1)) [1, 3, 4] (by omega) ⟨I0 + 1, o2, hlt0, rfl, rfl, rfl, he0, by rw [htk, lA]; omega⟩
  ·obtain ⟨he, hol⟩ := he
   have hal : (agL (kids.take i)).length ≤ (agL kids).length := by
    have hle : (agL kids).length = (agL (kids.take i)).length + (agL (kids.drop i)).length := by rw [← lA, ← agL_app, List.take_append_drop]
    omega
   rw [List.drop_eq_nil_of_le (by omega), frLs] at he
   rw [he]
   repeat' (first | refine AW.re 3 5 ?_ | refine AW.re 11 1 ?_ | refine AW.jj (fun hb => ?_) (fun hb => ?_) | refine AW.go ?_ | fail)
   all_goals try (exfalso; simp only [dT, dF, lM] at *; omega)
   have hob : o.length ≤ (agL kids).length := by omega
   clear he hol hal hlt hi
   refine AW.prune [1, 3, 7] (AW.loop (fun mz af h => ∃ (i : Nat) (o2 : List ByteArray), i ≤ args.length ∧ mz = args.length - i ∧ af = [(1, .at (.st [.int .i64 k, .int .i64 ar, .str nm, strs vars, strs args, .sl (kids.map GFml.av)])), (3, strs o2), (7, .int .i64 i)] ∧ h = [] ∧ (frA args o = frA (args.drop i) o2 ∧ o2.length ≤ o.length + i)) args.length ⟨0, o, Nat.zero_le _, rfl, rfl, rfl, ⟨rfl, by omega⟩⟩ ?_)
   rintro mz af h ⟨i, o2, hi, rfl, rfl, rfl, he⟩
   refine AW.seq ?_
   by_cases hlt : i < args.length
   ·obtain ⟨he, hol2⟩ := he
    obtain ⟨v, hv⟩ := get_lt hlt
    have hv' : (args.map AV.str)[((i : Nat) : Int).toNat]? = some (.str v) := map_get hv
    have hS := ref_sorted o2 v (by omega)
    have hsl := risP_len o2 v
    rw [drop_cons hv, frA] at he
    generalize risP o2 v = o3 at *
    repeat' (first | refine AW.re 12 5 ?_ | (refine xS 14 4 ?_; refine AL.d (iX hv') ?_; refine AL.es 1 ?_; refine AL.d (AOp.call rfl rfl hS) ?_; refine xN 1 ?_) | (refine xS 13 1 ?_; refine AL.d AOp.ad ?_; refine xN 1 ?_) | refine AW.jj (fun hb => ?_) (fun hb => ?_) | refine AW.go ?_ | fail)
    all_goals try (exfalso; simp only [dT, dF, lM] at *; omega)
    refine AW.again_keep (args.length - (i + 1)) [1, 3, 7] (by omega) ⟨i + 1, o3, hlt, rfl, rfl, rfl, ?_⟩
    exact ⟨he, by omega⟩
   ·obtain ⟨he, hol2⟩ := he
    rw [List.drop_eq_nil_of_le (by omega), frA] at he
    rw [he]
    repeat' (first | refine AW.re 12 5 ?_ | refine AW.re 15 2 ?_ | refine AW.jj (fun hb => ?_) (fun hb => ?_) | refine AW.go ?_ | fail)
    all_goals try (exfalso; simp only [dT, dF, lM] at *; omega)
    exact AW.retv rfl ⟨rfl, rfl⟩
theorem plN_app (l r : List ByteArray) (s : ByteArray) : ∀ i, i ≤ l.length → plN (l ++ r) s i = plN l s i
 | 0, _ => rfl
 | i + 1, h => by rw [plN, plN, plN_app l r s i (by omega), List.getElem?_append_left (by omega)]
theorem plc_snoc (l : List ByteArray) (x s : ByteArray) : plc (l ++ [x]) s = if s = x then (l.length : Int) else plc l s := by
 rw [plc, lA, List.length_singleton, plN, plN_app l [x] s l.length (Nat.le_refl _)]
 have e : (l ++ [x])[l.length]? = some x := by simp
 rw [e]
 by_cases h : s = x
 ·rw [if_pos h, if_pos (by rw [h])]
 ·rw [if_neg h, if_neg (by intro e; exact h (Option.some.inj e).symm)]; rfl
def JJ (tk0 xs ys : List ByteArray) (σ : Sb) (tk : List ByteArray) : Prop := xs.length = ys.length ∧ ∀ v ∈ tk0, rnS σ v ∈ tk ∧ plc xs v = plc ys (rnS σ v) ∧ (plc xs v < 0 → rnS σ v = v)
theorem JJ.mono {tk0 xs ys tk tk' : List ByteArray} {σ : Sb} (h : JJ tk0 xs ys σ tk) (k : ∀ x ∈ tk, x ∈ tk') : JJ tk0 xs ys σ tk' := ⟨h.1, fun v hv => ⟨k _ (h.2 v hv).1, (h.2 v hv).2⟩⟩
theorem JJ.step {tk0 xs ys tk : List ByteArray} {σ : Sb} {v w : ByteArray} (h : JJ tk0 xs ys σ tk) (hw : w ∉ tk) : JJ tk0 (xs ++ [v]) (ys ++ [w]) (up1 σ v w) (tk ++ [w]) := by
 refine ⟨by simp [h.1], fun u hu => ?_⟩
 by_cases e : u = v
 ·have e1 : rnS (up1 σ v w) u = w := by rw [rnS, up1, if_pos e]; rfl
  rw [e1, plc_snoc, plc_snoc, if_pos e, if_pos rfl, h.1]
  exact ⟨by simp, rfl, fun h => by omega⟩
 ·have e1 : rnS (up1 σ v w) u = rnS σ u := by rw [rnS, rnS, up1, if_neg e]
  obtain ⟨h1, h2, h3⟩ := h.2 u hu
  have hne : ¬ rnS σ u = w := fun e => hw (e ▸ h1)
  rw [e1, plc_snoc, plc_snoc, if_neg e, if_neg hne]
  exact ⟨by simp [h1], h2, h3⟩
theorem addV_mem (out : List ByteArray) (v x : ByteArray) : x ∈ addV out v ↔ x = v ∨ x ∈ out := by
 unfold addV
 split
 ·rename_i h
  rw [List.any_eq_true] at h
  obtain ⟨y, hy, e⟩ := h
  have e := of_decide_eq_true e
  subst e
  exact ⟨.inr, fun h => h.elim (fun h => h ▸ hy) id⟩
 ·rw [List.mem_append, List.mem_singleton]; exact Or.comm
theorem addVs_mem : ∀ (l out : List ByteArray) (x : ByteArray), x ∈ addVs l out ↔ x ∈ l ∨ x ∈ out
 | [], out, x => by simp [addVs]
 | v :: l, out, x => by
  rw [addVs, addVs_mem l, addV_mem, List.mem_cons]
  constructor
  ·rintro (h | h | h) <;> simp [h]
  ·rintro ((h | h) | h) <;> simp [h]
mutual
theorem agF_len : ∀ f : GFml, shsF f = true → (agF f).length ≤ 24 * ndF f
 | ⟨k, ar, nm, vars, args, kids⟩, h => by
  rw [shsF, bA] at h
  have h1 := shaped_args h.2
  have h2 := agL_len kids h.1
  simp only at h1
  rw [agF, ndF, lA]; omega
theorem agL_len : ∀ l : List GFml, shsFs l = true → (agL l).length ≤ 24 * ndFs l
 | [], h => by rw [agL]; exact Nat.zero_le _
 | x :: l, h => by
  rw [shsFs, bA] at h
  have h1 := agF_len x h.1
  have h2 := agL_len l h.2
  rw [agL, ndFs, lA]; omega
end
end Go.Proofs.YtlpndgodkkndnaaGreatDoor
