/- Contracts of the functions, part 2. -/
import Derived.Test.YtlpndgodkkndnaaGreatDoorA1
import Derived.Test.YtlpndgodkkndnaaGreatDoorA1
import Derived.Test.YtlpndgodkkndnaaGreatDoorS2
import Derived.Test.YtlpndgodkkndnaaGreatDoorS3
import Derived.Shelf.Strconv.Itoa3
import Derived.Test.YtlpndgodkkndnaaGreatDoorProg
namespace Go.Proofs.YtlpndgodkkndnaaGreatDoor
open Go.RowKit Go.SX
set_option maxRecDepth 100000
set_option maxHeartbeats 4000000
set_option linter.unusedVariables false
set_option linter.unusedSimpArgs false
def CkPost (b mb mf : Nat) (env : ByteArray → List Int) (r : CkS) (x : AEnd) (h : AH) : Prop := x = .ret (.tup []) ∧ ∃ A' gA', (∀ k, envA A' k = env k) ∧ h = ckH b mb mf r A' gA'
theorem chk_walk : ∀ (N : Nat) (f : GFml) (lv : Int) (A : List (ByteArray × Stk)) (gA : MG) (s : CkS) (b mb mf : Nat), ndF f ≤ N → f.Ok → 0 ≤ lv → lv ≤ 61 → s.bad = false → 0 ≤ s.n → s.n ≤ 4000 → (∀ k, ((envA A k).length : Int) ≤ lv) →
  Tri Tryz.prog 147 [.ref b 0, f.st, .int .i64 lv] (ckH b mb mf s A gA) (CkPost b mb mf (envA A) (chk f lv (envA A) s)) := by
 intro N
 induction N using Nat.strongRecOn with
 | _ N ih =>
  intro f lv A gA s b mb mf hN ho hlv0 hlv hbad hn0 hn1 hlen
  have hnd := ndF_eq f
  have hB := f_binds f
  have hS := f_shaped f ho
  obtain ⟨⟨_, _, _, q4, q5⟩, q6, q7⟩ := ho
  have l5 := q5.1
  obtain ⟨n, d, bad, F, gF⟩ := s
  simp only at hbad hn0 hn1
  subst hbad
  have hfin := chk_fin f.Kind f.Arity f.Name f.Vars f.Args f.Kids lv (envA A) ⟨n, d, false, F, gF⟩
  obtain ⟨k, ar, nm, vars, args, kids⟩ := f
  simp only at *
  generalize hR : chk ⟨k, ar, nm, vars, args, kids⟩ lv (envA A) ⟨n, d, false, F, gF⟩ = R at *
  rw [chk] at hR
  simp only at hR
  simp only [ckH, ckBox]
  refine Tri.enterD 162 Tryz.func147 rfl rfl rfl rfl fun Fr w0 => ?_
  repeat' (first | (refine AW.r 0 ?_; refine AL.box (v := .ref b 0) rfl rfl rfl fun rc => ?_; (refine AL.d (AOp.box_ro (v := .st [.int .i64 k, .int .i64 ar, .str nm, strs vars, strs args, .sl (kids.map GFml.av)]) rfl rfl) ?_) <;> refine AL.nil ?_) | (refine AW.r 1 ?_; refine AL.d (AOp.ll 0) ?_; refine AL.es 1 ?_; refine AL.d (AOp.fr 0) ?_; refine AL.d (AOp.ll 1) ?_; refine AL.d AOp.ad ?_; refine AL.es 1 ?_; refine AL.d (AOp.fr 0) ?_; refine AL.sl 1 ?_; refine AL.nil ?_) | (refine AW.dl 2 9 ?_; refine AQ.p rfl (AOp.ll 0) ?_; refine AQ.p rfl (AOp.ll 0) ?_; refine AQ.es 1 ?_; refine AQ.p rfl (AOp.fr 1) ?_; refine AQ.p rfl (AOp.ll 1) ?_; refine AQ.es 1 ?_; refine AQ.p rfl (AOp.max2 rfl rfl) ?_; refine AQ.es 1 ?_; refine AQ.p rfl (AOp.fr 1) ?_; refine AQ.nil ?_; refine AL.sl 1 ?_; refine AL.nil ?_) | refine AW.go ?_ | fail)
  refine AW.cut (fun af ah => ∃ v : Bool, af = [(2, .int .i64 lv), (3, .ref rc 0), (4, .at (.st [.int .i64 k, .int .i64 ar, .str nm, strs vars, strs args, .sl (kids.map GFml.av)])), (43, .bool v)] ∧ ah = .box rc (.ref b 0) :: ckH b mb mf ⟨n + 1, max d lv, false, F, gF⟩ A gA ∧ (v = true ↔ (4000 < n + 1 ∨ 60 < lv ∨ shapedP ⟨k, ar, nm, vars, args, kids⟩ = false))) ?_ ?_
  ·repeat' (first | (refine AW.r 3 ?_; refine AL.d (AOp.ll 0) ?_; refine AL.es 1 ?_; refine AL.d (AOp.fr 0) ?_; refine AL.d (AOp.ll 1) ?_; refine AL.es 2 ?_; ((refine AL.gx (fun hb => ?_) (fun hb => ?_) <;> refine AL.es 4 ?_)) <;> (first | refine AL.gs ?_ | (refine AL.gx (fun hb => ?_) (fun hb => ?_) <;> first | (refine AL.gd ?_; (refine AL.d AOp.la ?_)) | refine AL.gs ?_)) <;> (first | (refine AL.gd ?_; refine AL.d (AOp.call rfl rfl (hS.pure _)) ?_) | refine AL.gs ?_) <;> refine AL.es 2 ?_ <;> refine AL.nil ?_) | fail)
   all_goals refine AW.meet [2, 3, 4, 43] ⟨_, rfl, rfl, ?_⟩
   all_goals simp only [dT, dF] at *
   all_goals first
    | (simp; omega)
    | (rw [Bool.not_eq_true']; exact ⟨fun h => .inr (.inr h), fun h => by rcases h with h | h | h <;> first | omega | fail⟩)
  rintro af ah ⟨v, rfl, rfl, hv⟩
  cases v with
  | true =>
   repeat' (first | (refine AW.r 4 ?_; refine AL.d (AOp.ll 0) ?_; refine AL.es 1 ?_; refine AL.d (AOp.fr 4) ?_; refine AL.sl 1 ?_; refine AL.nil ?_) | (refine AW.r 5 ?_; refine AL.d (AOp.ll 0) ?_; refine AL.es 1 ?_; refine AL.d (AOp.fr 4) ?_; refine AL.d (AOp.ll 1) ?_; refine AL.nil ?_) | refine AW.jt ?_ | fail)
   refine AW.drop (List.sublist_cons_self _ _) ?_
   refine AW.retD0 .nil ⟨rfl, A, gA, fun _ => rfl, ?_⟩
   rw [if_pos (hv.1 rfl)] at hR
   rw [← hR]
   rfl
  | false =>
  have hv0 : ¬ (4000 < n + 1 ∨ 60 < lv ∨ shapedP ⟨k, ar, nm, vars, args, kids⟩ = false) := fun h => by have := hv.2 h; cases this
  rw [if_neg hv0] at hR
  have hsh : shapedP ⟨k, ar, nm, vars, args, kids⟩ = true := by
   cases h : shapedP ⟨k, ar, nm, vars, args, kids⟩ with
   | true => rfl
   | false => exact (hv0 (.inr (.inr h))).elim
  have hn2 : n + 1 ≤ 4000 := by omega
  have hlv2 : lv ≤ 60 := by omega
  clear hv hv0 hS
  repeat' (first | (refine AW.r 5 ?_; refine AL.d (AOp.ll 0) ?_; refine AL.es 1 ?_; refine AL.d (AOp.fr 4) ?_; refine AL.d (AOp.ll 1) ?_; refine AL.nil ?_) | refine AW.jf ?_ | fail)
  refine AW.skip (AW.seq ?_)
  generalize hE2 : (bif bindsB ⟨k, ar, nm, vars, args, kids⟩ then pushE (envA A) nm (bindsN ⟨k, ar, nm, vars, args, kids⟩) else envA A) = env2 at *
  refine AW.cut (fun af ah => ∃ s2 : CkS, af = [(2, .int .i64 lv), (3, .ref rc 0), (4, .at (.st [.int .i64 k, .int .i64 ar, .str nm, strs vars, strs args, .sl (kids.map GFml.av)]))] ∧ ah = .box rc (.ref b 0) :: ckH b mb mf s2 A gA ∧ 0 ≤ s2.n ∧ s2.n ≤ 4000 ∧ (s2.bad = false ∨ (kids = [] ∧ k = 0)) ∧ R = fin k nm kids (chkL kids (lv + 1) env2 s2)) ?_ ?_
  ·repeat' (first | (refine AW.r 6 ?_; refine AL.d AOp.fa ?_; refine AL.d AOp.la ?_; refine xN 1 ?_) | refine AW.jj (fun hb => ?_) (fun hb => ?_) | fail)
   ·have k0 : k = 0 := by simpa using hb
    obtain rfl : kids = [] := shaped_rel hsh k0
    rw [if_pos k0] at hR
    have hmeet : ∀ s2 : CkS, R = s2 → R = fin k nm [] (chkL [] (lv + 1) env2 s2) := fun s2 h => by
     rw [chkL, h, fin]
     cases hb2 : s2.bad with
     | true => rfl
     | false =>
      obtain ⟨u1, u2, u3, u4, u5⟩ := s2
      simp only at hb2
      subst hb2
      rw [k0]
      rfl
    refine AW.seq ?_
    refine AW.cut (fun af ah => af = [(2, .int .i64 lv), (3, .ref rc 0), (4, .at (.st [.int .i64 k, .int .i64 ar, .str nm, strs vars, strs args, .sl (([] : List GFml).map GFml.av)]))] ∧ ah = .box rc (.ref b 0) :: ckH b mb mf ⟨n + 1, max d lv, false, F, gF⟩ A gA ∧ envA A nm = []) ?_ ?_
    ·cases hL : lookA A nm with
     | none =>
      repeat' (first | (refine AW.dq 7 ?_; refine AQ.p rfl (AOp.ll 0) ?_; refine AQ.es 1 ?_; refine AQ.p rfl (AOp.fr 2) ?_; refine AQ.p rfl (AOp.ll 1) ?_; refine AQ.p rfl AOp.fa ?_; refine AQ.p rfl AOp.la ?_; refine AQ.p rfl (AOp.lookS_miss 2 52 (.slice none 0 0) (ok := false) hL rfl rfl rfl (by kernel_rfl) (by kernel_rfl)) ?_; refine AQ.es 1 ?_; refine AQ.nil ?_) | (refine xS 8 1 ?_; refine AL.d AOp.ln ?_; refine xN 1 ?_) | refine AW.jf ?_ | refine AW.go ?_ | fail)
      all_goals try (exfalso; simp only [dT, dF] at *; omega)
      exact AW.meet [2, 3, 4] ⟨rfl, rfl, by simp only [envA, hL]⟩
     | some t =>
      obtain ⟨tb, tl, tt⟩ := t
      obtain ⟨j, hj1, hj2⟩ := setA_hit hL
      have henv : envA A nm = tl := by simp only [envA, hL]
      have htl := hlen nm
      rw [henv] at htl
      repeat' (first | (refine AW.dq 7 ?_; refine AQ.p rfl (AOp.ll 0) ?_; refine AQ.es 1 ?_; refine AQ.p rfl (AOp.fr 2) ?_; refine AQ.p rfl (AOp.ll 1) ?_; refine AQ.p rfl AOp.fa ?_; refine AQ.p rfl AOp.la ?_; refine AQ.p rfl (AOp.lookS_hit 2 52 (g := Stk.av) (ok := false) hL rfl rfl rfl (by kernel_rfl)) ?_; refine AQ.es 1 ?_; refine AQ.nil ?_) | (refine xS 8 1 ?_; refine AL.d (AOp.len (v := Stk.av ⟨tb, tl, tt⟩) rfl rfl (by kernel_rfl)) ?_; refine xN 1 ?_) | refine AW.jj (fun hb => ?_) (fun hb => ?_) | refine AW.go ?_ | fail)
      ·have hpos : 0 < tl.length := by simpa using hb
       rw [henv] at hR
       obtain ⟨L, a, rfl⟩ : ∃ L a, tl = L ++ [a] := ⟨tl.dropLast, tl.getLast (by intro h; rw [h] at hpos; simp at hpos), (List.dropLast_concat_getLast _).symm⟩
       have hrow : ∀ x0 x1 x2 x3 : Own, (x0 :: x1 :: x2 :: x3 :: rowsA A)[j + 4]? = some (.row tb ((L ++ [a]).map iav ++ tt)) := fun x0 x1 x2 x3 => rowsA_get hj1
       have hcell : ((L ++ [a]).map iav ++ tt)[((((L ++ [a]).map iav).length : Int) - 1).toNat]? = some (iav a) := by
        have e : ((((L ++ [a]).map iav).length : Int) - 1).toNat = L.length := by simp
        rw [e, List.map_append, List.append_assoc, List.getElem?_append_right (by simp)]
        simp
       rw [List.getLast?_append, List.getLast?_singleton] at hR
       repeat' (first | (refine AW.dl 9 13 ?_; refine AQ.p rfl (AOp.ll 0) ?_; refine AQ.es 3 ?_; ((refine AQ.p rfl (AOp.sub rfl rfl (by simp only [lM]; omega)) ?_)) <;> refine AQ.p rfl (AOp.index_osl rfl rfl (by simp only [lM]; omega) (by simp only [lM]; omega) (by kernel_rfl)) ?_ <;> (refine AQ.p rfl (AOp.load_cell (j + 4) rfl (hrow _ _ _ _) hcell rfl (by kernel_rfl)) ?_) <;> (refine AQ.p rfl AOp.fa ?_) <;> (refine AQ.p rfl AOp.la ?_) <;> refine AQ.es 3 ?_ <;> (refine AQ.p rfl (AOp.fr 4) ?_) <;> refine AQ.nil ?_ <;> (refine AL.sl 1 ?_) <;> refine AL.nil ?_) | fail)
       refine AW.drop (List.sublist_cons_self _ _) ?_
       refine AW.retD0 .nil ⟨rfl, A, gA, fun _ => rfl, ?_⟩
       rw [← hR]
       simp only [lM]
       rfl
      ·have hnil : tl = [] := by
        have : ¬ 0 < tl.length := by simpa using hb
        exact List.eq_nil_of_length_eq_zero (by omega)
       exact AW.meet [2, 3, 4] ⟨rfl, rfl, by rw [henv, hnil]⟩
    rintro af ah ⟨rfl, rfl, henv⟩
    rw [henv] at hR
    simp only [List.getLast?_nil] at hR
    cases hF : lookA F nm with
    | none =>
     rw [hF] at hR
     repeat' (first | (refine AW.dq 10 ?_; refine AQ.p rfl (AOp.ll 0) ?_; refine AQ.es 1 ?_; refine AQ.p rfl (AOp.fr 3) ?_; refine AQ.p rfl (AOp.ll 1) ?_; refine AQ.p rfl AOp.fa ?_; refine AQ.p rfl AOp.la ?_; refine AQ.p rfl (AOp.lookS_miss 3 3 (.int .i64 0) (ok := true) hF rfl rfl rfl (by kernel_rfl) (by kernel_rfl)) ?_; refine AQ.es 5 ?_; refine AQ.nil ?_) | (refine xS 11 2 ?_; refine AL.es 1 ?_; refine AL.gs ?_; refine AL.gs ?_; refine xN 3 ?_) | (refine AW.dl 13 9 ?_; refine AQ.p rfl (AOp.ll 0) ?_; refine AQ.es 1 ?_; refine AQ.p rfl (AOp.fr 3) ?_; refine AQ.p rfl (AOp.ll 1) ?_; refine AQ.p rfl AOp.fa ?_; refine AQ.p rfl AOp.la ?_; refine AQ.p rfl AOp.fa ?_; refine AQ.p rfl AOp.la ?_; refine AQ.es 1 ?_; refine AQ.nil ?_; refine AL.setS 3 3 iav (args.length : Int) rfl rfl rfl (by simp only [aeval, get_cons, lM]; rfl) (by kernel_rfl) ?_ <;> refine AL.nil ?_) | refine AW.jf ?_ | fail)
     exact AW.meet [2, 3, 4] ⟨⟨n + 1, max d lv, false, setA F nm args.length, gsetA F gF nm⟩, rfl, rfl, by simp only; omega, hn2, .inl rfl, hmeet _ hR.symm⟩
    | some a =>
     rw [hF] at hR
     repeat' (first | (refine AW.dq 10 ?_; refine AQ.p rfl (AOp.ll 0) ?_; refine AQ.es 1 ?_; refine AQ.p rfl (AOp.fr 3) ?_; refine AQ.p rfl (AOp.ll 1) ?_; refine AQ.p rfl AOp.fa ?_; refine AQ.p rfl AOp.la ?_; refine AQ.p rfl (AOp.lookS_hit 3 3 (g := iav) (ok := true) hF rfl rfl rfl (by kernel_rfl)) ?_; refine AQ.es 5 ?_; refine AQ.nil ?_) | (refine xS 11 2 ?_; refine AL.es 1 ?_; ((refine AL.gd ?_; (refine AL.d AOp.fa ?_))) <;> ((refine AL.gd ?_; (refine AL.d AOp.la ?_))) <;> refine AL.es 3 ?_ <;> refine AL.nil ?_) | (refine AW.r 12 ?_; refine AL.d (AOp.ll 0) ?_; refine AL.es 1 ?_; refine AL.d (AOp.fr 4) ?_; refine AL.sl 1 ?_; refine AL.nil ?_) | (refine AW.dl 13 9 ?_; refine AQ.p rfl (AOp.ll 0) ?_; refine AQ.es 1 ?_; refine AQ.p rfl (AOp.fr 3) ?_; refine AQ.p rfl (AOp.ll 1) ?_; refine AQ.p rfl AOp.fa ?_; refine AQ.p rfl AOp.la ?_; refine AQ.p rfl AOp.fa ?_; refine AQ.p rfl AOp.la ?_; refine AQ.es 1 ?_; refine AQ.nil ?_; refine AL.setS 3 3 iav (args.length : Int) rfl rfl rfl (by simp only [aeval, get_cons, lM]; rfl) (by kernel_rfl) ?_ <;> refine AL.nil ?_) | refine AW.jj (fun hb => ?_) (fun hb => ?_) | fail)
     all_goals (simp only [lM] at hb; simp only [hb] at hR)
     ·exact AW.meet [2, 3, 4] ⟨⟨n + 1, max d lv, true, setA F nm args.length, gsetA F gF nm⟩, rfl, rfl, by simp only; omega, hn2, .inr ⟨rfl, k0⟩, hmeet _ hR.symm⟩
     ·exact AW.meet [2, 3, 4] ⟨⟨n + 1, max d lv, false, setA F nm args.length, gsetA F gF nm⟩, rfl, rfl, by simp only; omega, hn2, .inl rfl, hmeet _ hR.symm⟩
   ·have k0 : ¬ k = 0 := by simpa using hb
    rw [if_neg k0] at hR
    refine AW.skip ?_
    exact AW.meet [2, 3, 4] ⟨_, rfl, rfl, by simp only; omega, hn2, .inl rfl, hR.symm⟩
  rintro af ah ⟨s2, rfl, rfl, hs0, hs1, hsb, hRf⟩
  clear hR hfin
  unfold bindsS at hB
  repeat' (first | (refine AW.r 14 ?_; refine AL.d AOp.la ?_; refine AL.d (AOp.call rfl rfl (hB.pure _)) ?_; refine AL.es 4 ?_; refine AL.alloc_z (t := 9) (.str empB) (by kernel_rfl) rfl rfl fun r9 => ?_; refine AL.sl 0 ?_; refine xN 2 ?_) | fail)
  refine AW.prune [2, 3, 4, 9, 10, 11] ?_
  generalize hbn : bindsN ⟨k, ar, nm, vars, args, kids⟩ = bn at *
  cases hBb : bindsB ⟨k, ar, nm, vars, args, kids⟩ with
  | false =>
   rw [hBb, cond_false] at hE2
   refine AW.frame_eq (af' := [(2, .int .i64 lv), (3, .ref rc 0), (4, .at (.st [.int .i64 k, .int .i64 ar, .str nm, strs vars, strs args, .sl (kids.map GFml.av)])), (9, .ref r9 0), (10, .int .i64 bn), (11, .bool false)]) (ah' := .box r9 (.str empB) :: .box rc (.ref b 0) :: ckH b mb mf s2 A gA) rfl rfl ?_
   have hret : ∀ (R0 : Rg) (s3 : CkS) (A3 : List (ByteArray × Stk)) (g3 : MG), (∀ x, envA A3 x = env2 x) → R = s3 → ∀ ks af, AW (CofD Tryz.prog Tryz.f147 162 Fr R0 w0 (CkPost b mb mf (envA A) R)) [] (.c .ret :: ks) af (.box r9 (.str empB) :: .box rc (.ref b 0) :: ckH b mb mf s3 A3 g3) := by
    intro R0 s3 A3 g3 h1 h2 ks af
    refine AW.drop ((List.sublist_cons_self _ _).trans (List.sublist_cons_self _ _)) ?_
    exact AW.retD0 .nil ⟨rfl, A3, g3, fun x => by rw [h1, ← hE2], by rw [h2]⟩
   have hdone : ∀ (R0 : Rg) (s3 : CkS) (A3 : List (ByteArray × Stk)) (g3 : MG), (∀ x, envA A3 x = env2 x) → R = s3 → ∀ af, AW (CofD Tryz.prog Tryz.f147 162 Fr R0 w0 (CkPost b mb mf (envA A) R)) [] [] af (.box r9 (.str empB) :: .box rc (.ref b 0) :: ckH b mb mf s3 A3 g3) := by
    intro R0 s3 A3 g3 h1 h2 af
    refine AW.drop ((List.sublist_cons_self _ _).trans (List.sublist_cons_self _ _)) ?_
    exact AW.doneD0 .nil ⟨rfl, A3, g3, fun x => by rw [h1, ← hE2], by rw [h2]⟩
   have hA2 : ∀ x, envA A x = env2 x := fun x => by rw [hE2]
   have hlen2 : ∀ x, ((env2 x).length : Int) ≤ lv + 1 := fun x => by have := hlen x; rw [← hE2]; omega
   repeat' (first | refine AW.re 15 1 ?_ | refine AW.jf ?_ | fail)
   refine AW.skip ?_
   clear hBb hB
   refine AW.prune [2, 3, 4, 9] ?_
   repeat' (first | refine AW.re 18 4 ?_ | refine AW.go ?_ | fail)
   refine AW.prune [2, 3, 4, 9, 130, 131, 132] (AW.loop (fun mz af h => ∃ (i : Nat) (s3 : CkS) (A3 : List (ByteArray × Stk)) (g3 : MG), i ≤ kids.length ∧ mz = kids.length - i ∧ af = [(2, .int .i64 lv), (3, .ref rc 0), (4, .at (.st [.int .i64 k, .int .i64 ar, .str nm, strs vars, strs args, .sl (kids.map GFml.av)])), (9, .ref r9 0), (130, .sl (kids.map GFml.av)), (131, .int .i64 (kids.map GFml.av).length), (132, .int .i64 i)] ∧ h = .box r9 (.str empB) :: .box rc (.ref b 0) :: ckH b mb mf s3 A3 g3 ∧ (chkL kids (lv + 1) env2 s2 = chkL (kids.drop i) (lv + 1) env2 s3 ∧ (s3.bad = false ∨ (kids = [] ∧ k = 0)) ∧ 0 ≤ s3.n ∧ s3.n ≤ 4000 ∧ ∀ x, envA A3 x = env2 x)) kids.length ⟨0, s2, A, gA, Nat.zero_le _, rfl, rfl, rfl, ⟨rfl, hsb, hs0, hs1, hA2⟩⟩ ?_)
   rintro mz af h ⟨i, s3, A3, g3, hi, rfl, rfl, rfl, he⟩
   refine AW.seq ?_
   by_cases hlt : i < kids.length
   ·obtain ⟨he, hb3, g1, g2, hA3⟩ := he
    obtain ⟨x, hx⟩ := get_lt hlt
    have hx' : (kids.map GFml.av)[((i : Nat) : Int).toNat]? = some (x.st) := GFml.get hx
    have hxm := lG hx
    have hnx := ndFs_mem hxm
    have hb3' : s3.bad = false := hb3.resolve_right (fun h => by rw [h.1] at hlt; simp at hlt)
    have henv3 : envA A3 = env2 := funext hA3
    have hc := (ih (ndF x) (by omega) x (lv + 1) A3 g3 s3 b mb mf (Nat.le_refl _) (q7 x hxm) (by omega) (by omega) hb3' g1 g2 (by rw [henv3]; exact hlen2)).front [.box r9 (.str empB), .box rc (.ref b 0)]
    rw [henv3] at hc
    have hcn := chk_n x (lv + 1) env2 s3 hb3' g2
    rw [drop_cons hx, chkL] at he
    generalize chk x (lv + 1) env2 s3 = s4 at *
    repeat' (first | refine AW.re 19 1 ?_ | (refine AW.r 20 ?_; refine AL.d (iX hx') ?_; refine AL.d AOp.la ?_; refine AL.alloc_store (by kernel_rfl) rfl rfl rfl rfl ?_; refine AL.nil ?_) | (refine AW.r 21 ?_; refine AL.d (AOp.ll 1) ?_; refine AL.d AOp.la ?_; refine AL.es 1 ?_; refine AL.d AOp.ad ?_; (refine AL.callQ rfl rfl hc rfl ?_ ?_; rotate_left; rintro _ _ ⟨_, ⟨e, _⟩, _⟩; cases e; rintro _ _ ⟨_, ⟨e, A4, g4, hA4, rfl⟩, rfl⟩; injection e with e; subst e) <;> refine AL.nil ?_) | refine AW.jj (fun hb => ?_) (fun hb => ?_) | fail)
    all_goals try (exfalso; simp only [dT, dF, lM] at *; omega)
    refine AW.perm (b := .box r9 (.str empB) :: .box rc (.ref b 0) :: ckH b mb mf s4 A4 g4) (List.perm_append_comm (l₁ := ckH b mb mf s4 A4 g4) (l₂ := [_, _])) ?_
    repeat' (first | (refine AW.r 22 ?_; refine AL.d (AOp.ll 1) ?_; refine AL.es 1 ?_; refine AL.d (AOp.fr 4) ?_; refine AL.d (AOp.ll 2) ?_; refine AL.nil ?_) | refine AW.jj (fun hb => ?_) (fun hb => ?_) | refine AW.go ?_ | fail)
    ·rw [hb, cond_true] at he
     exact hret _ s4 A4 g4 hA4 (by rw [hRf, he, fin, hb, cond_true]) _ _
    ·rw [hb, cond_false] at he
     repeat' (first | (refine AW.r 23 ?_; refine AL.d AOp.ad ?_; refine xN 1 ?_) | fail)
     refine AW.again_keep (kids.length - (i + 1)) [2, 3, 4, 9, 130, 131, 132] (by omega) ⟨i + 1, s4, A4, g4, hlt, rfl, rfl, rfl, ?_⟩
     exact ⟨he, .inl hb, by omega, (hcn.2 hb).1, hA4⟩
   ·obtain ⟨he, hb3, g1, g2, hA3⟩ := he
    rw [List.drop_eq_nil_of_le (by omega), chkL] at he
    rw [he] at hRf
    repeat' (first | refine AW.re 19 1 ?_ | refine AW.jj (fun hb => ?_) (fun hb => ?_) | refine AW.go ?_ | fail)
    all_goals try (exfalso; simp only [dT, dF, lM] at *; omega)
    cases k8 : (k == 8) with
    | true =>
     have k80 : ¬ k = 0 := fun h => by rw [h] at k8; cases k8
     have hb3' : s3.bad = false := hb3.resolve_right (fun h => k80 h.2)
     have hsb' : s2.bad = false := hsb.resolve_right (fun h => k80 h.2)
     have hk1 := shaped_kid hsh (.inl (by simpa using k8))
     have hshs := ((chkL_n kids (lv + 1) env2 s2 hsb' hs1).2 (by rw [he]; exact hb3')).2
     obtain ⟨y, rfl⟩ : ∃ y, kids = [y] := by
      match kids, hk1 with
      | [y], _ => exact ⟨y, rfl⟩
     have hy : ([y].map GFml.av)[((0 : Int)).toNat]? = some y.st := by simp [GFml.av_eq]
     have hpos := f_positive nm _ y true (Nat.le_refl _) (q7 y (by simp)) (shsFs_mem hshs (by simp))
     have hf : R = { s3 with bad := !ps2 nm y true } := by rw [hRf, fin, hb3', cond_false, k8, psH, Bool.true_and]
     generalize ps2 nm y true = Y at *
     obtain rfl : k = 8 := by simpa using k8
     repeat' (first | (refine AW.dq 24 ?_; refine AQ.p rfl AOp.fa ?_; refine AQ.p rfl AOp.la ?_; refine AQ.es 2 ?_; refine AQ.gp rfl AOp.fa ?_; refine AQ.gp rfl AOp.la ?_; refine AQ.gp rfl (iX hy) ?_; refine AQ.gp rfl AOp.la ?_; refine AQ.gp rfl AOp.fa ?_; refine AQ.gp rfl AOp.la ?_; refine AQ.gp rfl (AOp.call rfl rfl (hpos.pure _)) ?_; refine AQ.es 2 ?_; refine AQ.nil ?_) | (refine AW.r 25 ?_; refine AL.d (AOp.ll 1) ?_; refine AL.es 1 ?_; refine AL.d (AOp.fr 4) ?_; refine AL.sl 2 ?_; refine AL.nil ?_) | refine AW.jj (fun hb => ?_) (fun hb => ?_) | refine AW.go ?_ | fail)
     ·exact hdone _ { s3 with bad := true } A3 g3 hA3 (by rw [hf, hb]) _
     ·refine AW.frame_eq rfl (show _ = .box r9 (.str empB) :: .box rc (.ref b 0) :: ckH b mb mf { s3 with bad := false } A3 g3 from by rw [← hb3']) ?_
      exact hdone _ { s3 with bad := false } A3 g3 hA3 (by rw [hf, hb]) _
    | false =>
     have hf : R = s3 := by
      rw [hRf, fin, k8, Bool.false_and]
      cases hq : s3.bad with
      | true => rfl
      | false => obtain ⟨v1, v2, v3, v4, v5⟩ := s3; simp only at hq; subst hq; rfl
     repeat' (first | (refine AW.dq 24 ?_; refine AQ.p rfl AOp.fa ?_; refine AQ.p rfl AOp.la ?_; refine AQ.es 2 ?_; ((refine AQ.x (fun hb => ?_) (fun hb => ?_) <;> first | refine AQ.gp rfl AOp.fa ?_ | refine AQ.k ?_)) <;> (first | refine AQ.gp rfl AOp.la ?_ | refine AQ.k ?_) <;> (first | (exfalso; simp only [dT, dF, lM, bne_iff_ne, ne_eq, bne_eq_false_iff_eq, beq_iff_eq, beq_eq_false_iff_ne] at *; omega) | refine AQ.k ?_) <;> (refine AQ.k ?_) <;> (refine AQ.k ?_) <;> (refine AQ.k ?_) <;> (refine AQ.k ?_) <;> refine AQ.es 2 ?_ <;> refine AQ.nil ?_) | refine AW.jf ?_ | refine AW.go ?_ | fail)
     all_goals try (exfalso; rw [k8] at hb; exact Bool.noConfusion hb)
     exact hdone _ s3 A3 g3 hA3 hf _
  | true =>
   rw [hBb, cond_true] at hE2
   refine AW.frame_eq (af' := [(2, .int .i64 lv), (3, .ref rc 0), (4, .at (.st [.int .i64 k, .int .i64 ar, .str nm, strs vars, strs args, .sl (kids.map GFml.av)])), (9, .ref r9 0), (10, .int .i64 bn), (11, .bool true)]) (ah' := .box r9 (.str nm) :: .box rc (.ref b 0) :: ckH b mb mf s2 A gA) rfl rfl ?_
   have hnmL := hlen nm
   repeat' (first | refine AW.re 15 1 ?_ | refine AW.jt ?_ | fail)
   refine AW.seq ?_
   refine AW.cut (fun af ah => ∃ (A2 : List (ByteArray × Stk)) (gA2 : MG), af = [(2, .int .i64 lv), (3, .ref rc 0), (4, .at (.st [.int .i64 k, .int .i64 ar, .str nm, strs vars, strs args, .sl (kids.map GFml.av)])), (9, .ref r9 0)] ∧ ah = .box r9 (.str nm) :: .box rc (.ref b 0) :: ckH b mb mf s2 A2 gA2 ∧ ∀ x, envA A2 x = env2 x) ?_ ?_
   ·cases hL : lookA A nm with
    | none =>
     refine AW.explore [false, false, false, true] [13, 14] rfl (by kernel_rfl) (by kernel_rfl) (by kernel_rfl) (by kernel_rfl) ?_
     repeat' (first | refine AQE.hole rfl rfl ?_ | refine AQE.ev rfl rfl rfl rfl ?_ | refine AQE.op rfl (AOp.fr 2) rfl rfl ?_ | refine AQE.op rfl (AOp.ll 0) rfl rfl ?_ | refine AQE.op rfl (AOp.ll 1) rfl rfl ?_ | refine AQE.op rfl (AOp.ll 2) rfl rfl ?_ | refine AQE.early rfl rfl (AOp.lookS_nil 0 52 (.slice none 0 0) hL rfl rfl rfl (by kernel_rfl) (by kernel_rfl) rfl) rfl rfl ?_ | refine AQE.op rfl (AOp.lit (e := 3) (sz := 1) (by kernel_rfl) rfl rfl rfl (P_one rfl) (by decide)) rfl rfl ?_ | refine AQE.nil ?_ | fail)
     refine AX.one (n := 1) 13 rfl ?_
     refine AXS.step (i := 13) rfl rfl rfl (AOp.append_i0 (v := iav bn) (e := 3) (bytes := 8) (c0 := .int .i64 0) rfl rfl rfl (by kernel_rfl) (by kernel_rfl) (by omega)) ?_ (by rintro _ _ ⟨_, _, e, _⟩; cases e)
     rintro _ _ ⟨b', tl', e, rfl⟩
     injection e with e
     subst e
     dsimp only [sA, sB]
     refine AX.one (n := 0) 14 rfl ?_
     refine AXS.step (i := 14) rfl rfl rfl (AOp.mapUpdate (i := 1) (kd := .string) (e := 52) (k := .str nm) (v := Stk.av ⟨b', [bn], tl'⟩) rfl rfl rfl rfl (by kernel_rfl) rfl (keysOK_kvW _ _)) ?_ (by rintro _ _ ⟨⟨_, e⟩, _⟩; cases e)
     rintro _ _ ⟨⟨_, e⟩, rfl⟩
     dsimp only [sA, sB]
     refine AX.done [(2, .int .i64 lv), (3, .ref rc 0), (4, .at (.st [.int .i64 k, .int .i64 ar, .str nm, strs vars, strs args, .sl (kids.map GFml.av)])), (9, .ref r9 0)] rfl ?_
     clear e
     rw [mset_kvW, gset_kvW]
     have hrw : rowsA (setA A nm ⟨b', [bn], tl'⟩) = rowsA A ++ [Own.row b' ([iav bn] ++ tl')] := by rw [setA_miss hL]; simp [rowsA, Stk.row]
     refine AW.perm (b := .box r9 (.str nm) :: .box rc (.ref b 0) :: ckH b mb mf s2 (setA A nm ⟨b', [bn], tl'⟩) (gsetA A gA nm)) ?_ (AW.meet [2, 3, 4, 9] ⟨_, _, rfl, rfl, fun x => ?_⟩)
     ·unfold ckH
      rw [hrw]
      exact ((List.perm_append_singleton _ _).symm).trans (List.Perm.append_right _ (List.perm_middle (l₁ := [_, _, _])).symm)
     ·rw [← hE2]
      simp only [envA, look_setA, pushE, hL]
      by_cases e : x = nm
      ·subst e; simp [hL]
      ·simp [e]
    | some t =>
     obtain ⟨tb, tl, tt⟩ := t
     obtain ⟨j, hj1, hj2⟩ := setA_hit hL
     have henv : envA A nm = tl := by simp only [envA, hL]
     rw [henv] at hnmL
     have hrj := rowsA_get hj1
     refine AW.perm (b := .box r9 (.str nm) :: .box rc (.ref b 0) :: .box b (ckBox s2 mb mf) :: .map mb (kvW Stk.av A) gA :: .row tb (tl.map iav ++ tt) :: .map mf (kvW iav s2.F) s2.gF :: (rowsA A).eraseIdx j) ?_ ?_
     ·exact (((((perm_erase hrj).cons _).trans (.swap _ _ _)).cons _).cons _ |>.cons _).cons _
     refine AW.explore [false, false, false, true, true] [13, 14] rfl (by kernel_rfl) (by kernel_rfl) (by kernel_rfl) (by kernel_rfl) ?_
     repeat' (first | refine AQE.hole rfl rfl ?_ | refine AQE.ev rfl rfl rfl rfl ?_ | refine AQE.op rfl (AOp.fr 2) rfl rfl ?_ | refine AQE.op rfl (AOp.ll 0) rfl rfl ?_ | refine AQE.op rfl (AOp.ll 1) rfl rfl ?_ | refine AQE.op rfl (AOp.ll 2) rfl rfl ?_ | refine AQE.early rfl rfl (AOp.lookS_hit 0 52 (g := Stk.av) (ok := false) hL rfl rfl rfl (by kernel_rfl)) rfl rfl ?_ | refine AQE.op rfl (AOp.lit (e := 3) (sz := 1) (by kernel_rfl) rfl rfl rfl (P_one rfl) (by decide)) rfl rfl ?_ | refine AQE.nil ?_ | fail)
     refine AX.one (n := 1) 13 rfl ?_
     refine AXS.step (i := 13) rfl rfl rfl (AOp.append_i (i := 1) (us := tl.map iav) (tl := tt) (v := iav bn) (e := 3) (bytes := 8) (c0 := .int .i64 0) rfl rfl rfl rfl rfl (by kernel_rfl) (by kernel_rfl) (by simp only [lM]; omega) (by simp only [lM]; omega)) ?_ (by rintro _ _ ⟨_, _, e, _⟩; cases e)
     rintro _ _ ⟨b', tl', e, rfl⟩
     injection e with e
     subst e
     dsimp only [sA, sB]
     have hav : AV.osl b' (tl.map iav ++ [iav bn]).length ((tl.map iav ++ [iav bn]).length + tl'.length) = Stk.av ⟨b', tl ++ [bn], tl'⟩ := by simp [Stk.av]
     rw [hav]
     refine AX.one (n := 0) 14 rfl ?_
     refine AXS.step (i := 14) rfl rfl rfl (AOp.mapUpdate (i := 0) (kd := .string) (e := 52) (k := .str nm) (v := Stk.av ⟨b', tl ++ [bn], tl'⟩) rfl rfl rfl rfl (by kernel_rfl) rfl (keysOK_kvW _ _)) ?_ (by rintro _ _ ⟨⟨_, e⟩, _⟩; cases e)
     rintro _ _ ⟨⟨_, e⟩, rfl⟩
     dsimp only [sA, sB]
     refine AX.done [(2, .int .i64 lv), (3, .ref rc 0), (4, .at (.st [.int .i64 k, .int .i64 ar, .str nm, strs vars, strs args, .sl (kids.map GFml.av)])), (9, .ref r9 0)] rfl ?_
     clear e
     rw [mset_kvW, gset_kvW]
     have hrw : rowsA (setA A nm ⟨b', tl ++ [bn], tl'⟩) = (rowsA A).set j (Own.row b' (tl.map iav ++ [iav bn] ++ tl')) := by rw [hj2, rowsA_set]; simp [Stk.row]
     refine AW.perm (b := .box r9 (.str nm) :: .box rc (.ref b 0) :: ckH b mb mf s2 (setA A nm ⟨b', tl ++ [bn], tl'⟩) (gsetA A gA nm)) ?_ (AW.meet [2, 3, 4, 9] ⟨_, _, rfl, rfl, fun x => ?_⟩)
     ·unfold ckH
      rw [hrw]
      have hp := perm_set (Own.row b' (tl.map iav ++ [iav bn] ++ tl')) hrj
      exact perm7 hp
     ·rw [← hE2]
      simp only [envA, look_setA, pushE, hL]
      by_cases e : x = nm
      ·subst e; simp [hL]
      ·simp [e]
   rintro af ah ⟨A2, gA2, rfl, rfl, hA2⟩
   repeat' (first | (refine xS 17 1 ?_; refine AL.defer rfl rfl rfl ?_; refine AL.nil ?_) | fail)
   have hret0 : ∀ (s3 : CkS) (A3 : List (ByteArray × Stk)) (g3 : MG), (∀ x, envA A3 x = env2 x) → R = s3 → TriD Tryz.prog 171 [.ref rc 0, .ref r9 0] (.box r9 (.str nm) :: .box rc (.ref b 0) :: ckH b mb mf s3 A3 g3) .returning (fun u' h => settle u' = .returning ∧ ∃ h', h'.Sublist h ∧ CkPost b mb mf (envA A) R (.ret (.tup [])) h') := by
    intro s3 A3 g3 h1 h2
    have h3 := h1 nm
    rw [← hE2] at h3
    simp only [pushE, if_true] at h3
    cases hL : lookA A3 nm with
    | none => simp only [envA, hL] at h3; simp at h3
    | some t =>
     simp only [envA, hL] at h3
     refine (walk_defer b mb mf rc r9 s3 A3 g3 nm t hL (envA A nm) bn h3 (by omega)).mono ?_
     rintro u' h ⟨rfl, A', h4, rfl⟩
     refine ⟨rfl, _, (List.sublist_cons_self _ _).trans (List.sublist_cons_self _ _), rfl, A', g3, fun x => ?_, by rw [h2]⟩
     rw [h4, h1, ← hE2]
     simp only [pushE]
     by_cases e : x = nm
     ·rw [if_pos e, e]
     ·rw [if_neg e, if_neg e]
   have hret : ∀ (R0 : Rg) (s3 : CkS) (A3 : List (ByteArray × Stk)) (g3 : MG), (∀ x, envA A3 x = env2 x) → R = s3 → ∀ ks af, AW (CofD Tryz.prog Tryz.f147 162 Fr R0 w0 (CkPost b mb mf (envA A) R)) [{ target := .fn (.func 171) #[.pointer (some ⟨rc, 0, none⟩), .pointer (some ⟨r9, 0, none⟩)], args := #[] }] (.c .ret :: ks) af (.box r9 (.str nm) :: .box rc (.ref b 0) :: ckH b mb mf s3 A3 g3) :=
    fun R0 s3 A3 g3 h1 h2 ks af => AW.retD1n rfl rfl (hret0 s3 A3 g3 h1 h2)
   have hdone : ∀ (R0 : Rg) (s3 : CkS) (A3 : List (ByteArray × Stk)) (g3 : MG), (∀ x, envA A3 x = env2 x) → R = s3 → ∀ af, AW (CofD Tryz.prog Tryz.f147 162 Fr R0 w0 (CkPost b mb mf (envA A) R)) [{ target := .fn (.func 171) #[.pointer (some ⟨rc, 0, none⟩), .pointer (some ⟨r9, 0, none⟩)], args := #[] }] [] af (.box r9 (.str nm) :: .box rc (.ref b 0) :: ckH b mb mf s3 A3 g3) :=
    fun R0 s3 A3 g3 h1 h2 af => AW.doneD1n rfl rfl (hret0 s3 A3 g3 h1 h2)
   have hlen2 : ∀ x, ((env2 x).length : Int) ≤ lv + 1 := fun x => by
    have := hlen x
    rw [← hE2]
    simp only [pushE]
    split
    ·simp only [lA, List.length_singleton]; omega
    ·omega
   clear hret0 hBb hB
   repeat' (first | refine AW.re 18 4 ?_ | refine AW.go ?_ | fail)
   refine AW.prune [2, 3, 4, 9, 130, 131, 132] (AW.loop (fun mz af h => ∃ (i : Nat) (s3 : CkS) (A3 : List (ByteArray × Stk)) (g3 : MG), i ≤ kids.length ∧ mz = kids.length - i ∧ af = [(2, .int .i64 lv), (3, .ref rc 0), (4, .at (.st [.int .i64 k, .int .i64 ar, .str nm, strs vars, strs args, .sl (kids.map GFml.av)])), (9, .ref r9 0), (130, .sl (kids.map GFml.av)), (131, .int .i64 (kids.map GFml.av).length), (132, .int .i64 i)] ∧ h = .box r9 (.str nm) :: .box rc (.ref b 0) :: ckH b mb mf s3 A3 g3 ∧ (chkL kids (lv + 1) env2 s2 = chkL (kids.drop i) (lv + 1) env2 s3 ∧ (s3.bad = false ∨ (kids = [] ∧ k = 0)) ∧ 0 ≤ s3.n ∧ s3.n ≤ 4000 ∧ ∀ x, envA A3 x = env2 x)) kids.length ⟨0, s2, A2, gA2, Nat.zero_le _, rfl, rfl, rfl, ⟨rfl, hsb, hs0, hs1, hA2⟩⟩ ?_)
   rintro mz af h ⟨i, s3, A3, g3, hi, rfl, rfl, rfl, he⟩
   refine AW.seq ?_
   by_cases hlt : i < kids.length
   ·obtain ⟨he, hb3, g1, g2, hA3⟩ := he
    obtain ⟨x, hx⟩ := get_lt hlt
    have hx' : (kids.map GFml.av)[((i : Nat) : Int).toNat]? = some (x.st) := GFml.get hx
    have hxm := lG hx
    have hnx := ndFs_mem hxm
    have hb3' : s3.bad = false := hb3.resolve_right (fun h => by rw [h.1] at hlt; simp at hlt)
    have henv3 : envA A3 = env2 := funext hA3
    have hc := (ih (ndF x) (by omega) x (lv + 1) A3 g3 s3 b mb mf (Nat.le_refl _) (q7 x hxm) (by omega) (by omega) hb3' g1 g2 (by rw [henv3]; exact hlen2)).front [.box r9 (.str nm), .box rc (.ref b 0)]
    rw [henv3] at hc
    have hcn := chk_n x (lv + 1) env2 s3 hb3' g2
    rw [drop_cons hx, chkL] at he
    generalize chk x (lv + 1) env2 s3 = s4 at *
    repeat' (first | refine AW.re 19 1 ?_ | (refine AW.r 20 ?_; refine AL.d (iX hx') ?_; refine AL.d AOp.la ?_; refine AL.alloc_store (by kernel_rfl) rfl rfl rfl rfl ?_; refine AL.nil ?_) | (refine AW.r 21 ?_; refine AL.d (AOp.ll 1) ?_; refine AL.d AOp.la ?_; refine AL.es 1 ?_; refine AL.d AOp.ad ?_; (refine AL.callQ rfl rfl hc rfl ?_ ?_; rotate_left; rintro _ _ ⟨_, ⟨e, _⟩, _⟩; cases e; rintro _ _ ⟨_, ⟨e, A4, g4, hA4, rfl⟩, rfl⟩; injection e with e; subst e) <;> refine AL.nil ?_) | refine AW.jj (fun hb => ?_) (fun hb => ?_) | fail)
    all_goals try (exfalso; simp only [dT, dF, lM] at *; omega)
    refine AW.perm (b := .box r9 (.str nm) :: .box rc (.ref b 0) :: ckH b mb mf s4 A4 g4) (List.perm_append_comm (l₁ := ckH b mb mf s4 A4 g4) (l₂ := [_, _])) ?_
    repeat' (first | (refine AW.r 22 ?_; refine AL.d (AOp.ll 1) ?_; refine AL.es 1 ?_; refine AL.d (AOp.fr 4) ?_; refine AL.d (AOp.ll 2) ?_; refine AL.nil ?_) | refine AW.jj (fun hb => ?_) (fun hb => ?_) | refine AW.go ?_ | fail)
    ·rw [hb, cond_true] at he
     exact hret _ s4 A4 g4 hA4 (by rw [hRf, he, fin, hb, cond_true]) _ _
    ·rw [hb, cond_false] at he
     repeat' (first | (refine AW.r 23 ?_; refine AL.d AOp.ad ?_; refine xN 1 ?_) | fail)
     refine AW.again_keep (kids.length - (i + 1)) [2, 3, 4, 9, 130, 131, 132] (by omega) ⟨i + 1, s4, A4, g4, hlt, rfl, rfl, rfl, ?_⟩
     exact ⟨he, .inl hb, by omega, (hcn.2 hb).1, hA4⟩
   ·obtain ⟨he, hb3, g1, g2, hA3⟩ := he
    rw [List.drop_eq_nil_of_le (by omega), chkL] at he
    rw [he] at hRf
    repeat' (first | refine AW.re 19 1 ?_ | refine AW.jj (fun hb => ?_) (fun hb => ?_) | refine AW.go ?_ | fail)
    all_goals try (exfalso; simp only [dT, dF, lM] at *; omega)
    cases k8 : (k == 8) with
    | true =>
     have k80 : ¬ k = 0 := fun h => by rw [h] at k8; cases k8
     have hb3' : s3.bad = false := hb3.resolve_right (fun h => k80 h.2)
     have hsb' : s2.bad = false := hsb.resolve_right (fun h => k80 h.2)
     have hk1 := shaped_kid hsh (.inl (by simpa using k8))
     have hshs := ((chkL_n kids (lv + 1) env2 s2 hsb' hs1).2 (by rw [he]; exact hb3')).2
     obtain ⟨y, rfl⟩ : ∃ y, kids = [y] := by
      match kids, hk1 with
      | [y], _ => exact ⟨y, rfl⟩
     have hy : ([y].map GFml.av)[((0 : Int)).toNat]? = some y.st := by simp [GFml.av_eq]
     have hpos := f_positive nm _ y true (Nat.le_refl _) (q7 y (by simp)) (shsFs_mem hshs (by simp))
     have hf : R = { s3 with bad := !ps2 nm y true } := by rw [hRf, fin, hb3', cond_false, k8, psH, Bool.true_and]
     generalize ps2 nm y true = Y at *
     obtain rfl : k = 8 := by simpa using k8
     repeat' (first | (refine AW.dq 24 ?_; refine AQ.p rfl AOp.fa ?_; refine AQ.p rfl AOp.la ?_; refine AQ.es 2 ?_; refine AQ.gp rfl AOp.fa ?_; refine AQ.gp rfl AOp.la ?_; refine AQ.gp rfl (iX hy) ?_; refine AQ.gp rfl AOp.la ?_; refine AQ.gp rfl AOp.fa ?_; refine AQ.gp rfl AOp.la ?_; refine AQ.gp rfl (AOp.call rfl rfl (hpos.pure _)) ?_; refine AQ.es 2 ?_; refine AQ.nil ?_) | (refine AW.r 25 ?_; refine AL.d (AOp.ll 1) ?_; refine AL.es 1 ?_; refine AL.d (AOp.fr 4) ?_; refine AL.sl 2 ?_; refine AL.nil ?_) | refine AW.jj (fun hb => ?_) (fun hb => ?_) | refine AW.go ?_ | fail)
     ·exact hdone _ { s3 with bad := true } A3 g3 hA3 (by rw [hf, hb]) _
     ·refine AW.frame_eq rfl (show _ = .box r9 (.str nm) :: .box rc (.ref b 0) :: ckH b mb mf { s3 with bad := false } A3 g3 from by rw [← hb3']) ?_
      exact hdone _ { s3 with bad := false } A3 g3 hA3 (by rw [hf, hb]) _
    | false =>
     have hf : R = s3 := by
      rw [hRf, fin, k8, Bool.false_and]
      cases hq : s3.bad with
      | true => rfl
      | false => obtain ⟨v1, v2, v3, v4, v5⟩ := s3; simp only at hq; subst hq; rfl
     repeat' (first | (refine AW.dq 24 ?_; refine AQ.p rfl AOp.fa ?_; refine AQ.p rfl AOp.la ?_; refine AQ.es 2 ?_; ((refine AQ.x (fun hb => ?_) (fun hb => ?_) <;> first | refine AQ.gp rfl AOp.fa ?_ | refine AQ.k ?_)) <;> (first | refine AQ.gp rfl AOp.la ?_ | refine AQ.k ?_) <;> (first | (exfalso; simp only [dT, dF, lM, bne_iff_ne, ne_eq, bne_eq_false_iff_eq, beq_iff_eq, beq_eq_false_iff_ne] at *; omega) | refine AQ.k ?_) <;> (refine AQ.k ?_) <;> (refine AQ.k ?_) <;> (refine AQ.k ?_) <;> (refine AQ.k ?_) <;> refine AQ.es 2 ?_ <;> refine AQ.nil ?_) | refine AW.jf ?_ | refine AW.go ?_ | fail)
     all_goals try (exfalso; rw [k8] at hb; exact Bool.noConfusion hb)
     exact hdone _ s3 A3 g3 hA3 hf _
theorem f_checked (f : GFml) (ho : f.Ok) : Tri Tryz.prog 96 [f.st] [] (fun x h => ∃ b mb mf A gA, x = .ret (.ref b 0) ∧ h = ckH b mb mf (chk f 1 (fun _ => []) chk0) A gA) := by
 have hw := fun b mb mf => chk_walk _ f 1 [] ⟨[], 0⟩ chk0 b mb mf (Nat.le_refl _) ho (by omega) (by omega) rfl (by decide) (by decide) (fun k => by simp [envA, lookA])
 have he : envA [] = fun _ => [] := by funext k; rfl
 rw [he] at hw
 generalize chk f 1 (fun _ => []) chk0 = R at *
 obtain ⟨k, ar, nm, vars, args, kids⟩ := f
 refine Tri.enter 12 Tryz.func96 rfl rfl rfl rfl fun Fr w0 => ?_
 repeat' (first | (refine AW.r 0 ?_; (refine AL.d (AOp.box_ro (v := .st [.int .i64 k, .int .i64 ar, .str nm, strs vars, strs args, .sl (kids.map GFml.av)]) rfl rfl) ?_) <;> refine AL.es 1 ?_ <;> refine AL.nil ?_) | refine AW.go ?_ | fail)
 repeat' (first | (refine AW.r 1 ?_; refine AL.makeMap rfl fun bm => ?_; refine AL.makeMap rfl fun bm => ?_; refine AL.d (AOp.build (pl := [(0, 1), (1, 1), (2, 1), (3, 1), (4, 1)]) (z := .st [.int .i64 0, .int .i64 0, .val (.map none), .val (.map none), .bool false]) (by kernel_rfl) rfl rfl rfl) ?_ <;> refine AL.box rfl rfl rfl fun b => ?_ <;> refine AL.es 1 ?_ <;> refine AL.nil ?_) | refine AW.go ?_ | fail)
 rename_i mb
 refine AW.perm (b := ckH b mb bm chk0 [] ⟨[], 0⟩) ((List.Perm.swap _ _ _).cons _) ?_
 have hw1 := hw b mb bm
 repeat' (first | (refine xS 2 2 ?_; (refine AL.callQ rfl rfl hw1 rfl ?_ ?_; rotate_left; rintro _ _ ⟨e, _⟩; cases e; rintro _ _ ⟨e, A4, g4, hA4, rfl⟩; injection e with e; subst e) <;> refine AL.nil ?_) | refine AW.go ?_ | fail)
 repeat' (first | refine AW.re 3 2 ?_ | fail)
 exact AW.retv rfl ⟨_, _, _, _, _, rfl, rfl⟩
theorem f_Valid (f : GFml) (ho : f.Ok) : Tri Tryz.prog 50 [f.st] [] (D (.bool (validF f)) []) := by
 have hc := f_checked f ho
 have hv := chk_valid f
 generalize chk f 1 (fun _ => []) chk0 = R at *
 generalize validF f = V at *
 obtain ⟨k, ar, nm, vars, args, kids⟩ := f
 refine Tri.enter 9 Tryz.func50 rfl rfl rfl rfl fun Fr w0 => ?_
 repeat' (first | (refine AW.r 0 ?_; (refine AL.d (AOp.box_ro (v := .st [.int .i64 k, .int .i64 ar, .str nm, strs vars, strs args, .sl (kids.map GFml.av)]) rfl rfl) ?_) <;> refine AL.es 1 ?_ <;> refine AL.nil ?_) | refine AW.go ?_ | fail)
 repeat' (first | (refine AW.r 1 ?_; refine AL.d AOp.la ?_; (refine AL.callQ rfl rfl hc rfl ?_ ?_; rotate_left; rintro _ _ ⟨_, _, _, _, _, e, _⟩; cases e; rintro _ _ ⟨b, mb, mf, A, g, e, rfl⟩; injection e with e; subst e) <;> refine AL.es 1 ?_ <;> (refine AL.d (AOp.fr 4) ?_) <;> (refine AL.d (AOp.ll 0) ?_) <;> refine AL.es 2 ?_ <;> refine AL.nil ?_) | fail)
 exact AW.ret_drop rfl (List.nil_sublist _) ⟨by rw [hv, Bool.not_not], rfl⟩
theorem Clone_str (xs : List ByteArray) (hl : xs.length ≤ 8796093021952) : Tri Tryz.prog 148 [strs xs] [] (D (strs xs) []) := by
 refine Tri.enter 8 Tryz.func148 rfl rfl rfl rfl fun Fr w0 => ?_
 repeat' (first | refine AW.re 0 1 ?_ | refine AW.go ?_ | fail)
 repeat' (first | (refine xS 1 1 ?_; refine AL.slice_nil (xs := xs.map AV.str) rfl (by kernel_rfl) rfl fun B hB => ?_; refine AL.nil ?_) | refine AW.jj (fun hb => ?_) (fun hb => ?_) | refine AW.go ?_ | fail)
 ·have hx : xs = [] := by
   cases xs with
   | nil => rfl
   | cons y l => have h := hB (by simp); rw [h] at hb; cases hb
  subst hx
  repeat' (first | refine AW.re 2 1 ?_ | fail)
  exact AW.retv rfl ⟨rfl, rfl⟩
 ·repeat' (first | (refine AW.r 3 ?_; refine AL.lit_own (e := 9) (sz := 1) (by kernel_rfl) rfl rfl rfl P_nil (by decide) rfl fun b0 => ?_; refine AL.es 1 ?_; refine AL.append (i := 0) (e := 9) (sz := 1) (bytes := 16) rfl rfl rfl rfl (by kernel_rfl) (by kernel_rfl) (by repeat' (exact P_nil)) (by repeat' (exact P_map fun _ => rfl)) (ok_all (by repeat' (exact P_map fun _ => rfl))) (by (try simp only [lA, lM, List.length_take, List.length_drop, List.length_cons, List.length_nil, List.length_replicate]); omega) (by (try simp only [lA, lM, List.length_take, List.length_drop, List.length_cons, List.length_nil, List.length_replicate]); omega) rfl fun b' c' => ?_ <;> refine AL.es 1 ?_ <;> refine AL.nil ?_) | fail)
  refine AW.as_sl 2 rfl ?_
  exact AW.ret_drop rfl (List.nil_sublist _) ⟨rfl, rfl⟩
theorem n_with (f : GFml) (ho : f.Ok) (kids : List GFml) : Tri Tryz.prog 99 [f.st, .sl (kids.map GFml.av)] [] (D ({ f with Kids := kids } : GFml).st []) := by
 obtain ⟨⟨_, _, _, h4, h5⟩, h6, h7⟩ := ho
 have hv := Clone_str f.Vars (by have := h4.1; omega)
 have ha := Clone_str f.Args (by have := h5.1; omega)
 obtain ⟨k, ar, nm, vars, args, kids0⟩ := f
 simp only at *
 refine Tri.enter 16 Tryz.func99 rfl rfl rfl rfl fun Fr w0 => ?_
 repeat' (first | (refine AW.r 0 ?_; refine AL.box rfl rfl rfl fun b => ?_; refine AL.alloc_z (t := 25) (.st [.int .i64 0, .int .i64 0, .str empB, .sl [], .sl [], .sl []]) (by kernel_rfl) rfl rfl fun r => ?_; refine AL.nil ?_) | refine AW.go ?_ | fail)
 repeat' (first | (refine AW.ex 1 [false, true] [8, 10, 12] ?_; refine AQE.p rfl (AOp.fr 3) ?_; refine AQE.pe rfl (AOp.ll 0) ?_; refine AQE.p rfl (AOp.call rfl rfl (hv.pure _)) ?_; refine AQE.p rfl (AOp.fr 4) ?_; refine AQE.pe rfl (AOp.ll 0) ?_; refine AQE.p rfl (AOp.call rfl rfl (ha.pure _)) ?_; refine AQE.e ?_; refine AQE.p rfl (AOp.fr 3) ?_; refine AQE.hl ?_; refine AQE.p rfl (AOp.fr 4) ?_; refine AQE.hl ?_; refine AQE.p rfl (AOp.fr 5) ?_; refine AQE.hl ?_; refine AQE.nil ?_; refine AX.o (n := 2) 8 ?_; refine AXO.sl 0 fun _ => ?_; try dsimp only [sA, sB, sC, sD] <;> refine AX.o (n := 1) 10 ?_ <;> (refine AXO.sl 0 fun _ => ?_) <;> try dsimp only [sA, sB, sC, sD] <;> refine AX.o (n := 0) 12 ?_ <;> (refine AXO.sl 0 fun _ => ?_) <;> try dsimp only [sA, sB, sC, sD] <;> refine AX.done_keep [0, 2, 4, 15, 25] ?_) | refine AW.go ?_ | fail)
 refine AW.prune [2, 4] ?_
 repeat' (first | (refine AW.r 2 ?_; refine AL.d (AOp.lw 0) ?_; refine AL.sl 1 ?_; refine AL.nil ?_) | fail)
 exact AW.retc (.cell 1 rfl rfl (by kernel_rfl) .nil) (List.nil_sublist _) ⟨rfl, rfl⟩
theorem n_each (f : GFml) (ho : f.Ok) (fid : FuncId) (caps : List AV) (g : GFml → GFml) (hf : ∀ x ∈ f.Kids, Tri Tryz.prog fid (x.st :: caps) [] (D (g x).st [])) :
  Tri Tryz.prog 98 [f.st, .fn fid caps] [] (D ({ f with Kids := f.Kids.map g } : GFml).st []) := by
 have hw := fun kids => n_with f ho kids
 obtain ⟨_, h6, h7⟩ := ho
 obtain ⟨k, ar, nm, vars, args, kids⟩ := f
 simp only at *
 refine Tri.enter 25 Tryz.func98 rfl rfl rfl rfl fun Fr w0 => ?_
 repeat' (first | (refine AW.r 0 ?_; (refine AL.d (AOp.box_ro (v := .st [.int .i64 k, .int .i64 ar, .str nm, strs vars, strs args, .sl (kids.map GFml.av)]) rfl rfl) ?_) <;> (refine AL.alloc_z (t := 25) (.st [.int .i64 0, .int .i64 0, .str empB, .sl [], .sl [], .sl []]) (by kernel_rfl) rfl rfl fun r => ?_) <;> refine AL.nil ?_) | (refine AW.r 1 ?_; refine AL.d AOp.assign_nil ?_; refine AL.nil ?_) | (refine xS 2 3 ?_; refine AL.e ?_; refine AL.nil ?_) | refine AW.go ?_ | fail)
 refine AW.own_nil 6 ?_
 refine AW.prune [1, 2, 4, 5, 9, 10, 11] (AW.loop (fun mz af h => ∃ (i : Nat) (o : List GFml) (tt : Option Nat) (cc : Nat), i ≤ kids.length ∧ mz = kids.length - i ∧ af = [(1, .fn fid caps), (2, .at (.st [.int .i64 k, .int .i64 ar, .str nm, strs vars, strs args, .sl (kids.map GFml.av)])), (4, .ref r 0), (5, .slt (o.map GFml.av) tt cc), (9, .sl (kids.map GFml.av)), (10, .int .i64 (kids.map GFml.av).length), (11, .int .i64 i)] ∧ h = [.tail tt (o.map GFml.av).length cc 6, .box r (.st [.int .i64 0, .int .i64 0, .str empB, .sl [], .sl [], .sl []])] ∧ o = (kids.take i).map g) kids.length ⟨0, [], none, 0, Nat.zero_le _, rfl, rfl, rfl, by simp⟩ ?_)
 rintro mz af h ⟨i, o, tt, cc, hi, rfl, rfl, rfl, he⟩
 refine AW.seq ?_
 by_cases hlt : i < kids.length
 ·obtain ⟨x, hx⟩ := get_lt hlt
  have hx' : (kids.map GFml.av)[((i : Nat) : Int).toNat]? = some (x.st) := GFml.get hx
  have hc := hf x (lG hx)
  have hol : o.length ≤ 1353245080300 := by rw [he]; simp; omega
  have hm : (o ++ [g x]).map GFml.av = o.map GFml.av ++ [(g x).st] := by simp [GFml.av_eq]
  repeat' (first | refine AW.re 3 1 ?_ | (refine AW.r 4 ?_; refine AL.d (iX hx') ?_; refine AL.es 1 ?_; refine AL.alloc_store (by kernel_rfl) rfl rfl rfl rfl ?_; refine AL.nil ?_) | refine AW.jj (fun hb => ?_) (fun hb => ?_) | refine AW.go ?_ | fail)
  all_goals try (exfalso; simp only [dT, dF, lM] at *; omega)
  repeat' (first | (refine xS 5 3 ?_; refine AL.d (AOp.call rfl rfl (hc.pure _)) ?_; refine AL.d (AOp.lit (e := 25) (sz := 6) (by kernel_rfl) rfl rfl rfl (P_one rfl) (by decide)) ?_; refine AL.append (i := 0) (xs := o.map GFml.av) (e := 25) (sz := 6) (bytes := 104) rfl rfl rfl rfl (by kernel_rfl) (by kernel_rfl) (P_map GFml.size_av) (P_one rfl) rfl (by simp only [lM]; simp; omega) (by simp only [lM]; simp; omega) rfl fun b' c' => ?_ <;> refine AL.es 1 ?_ <;> refine AL.nil ?_) | refine AW.go ?_ | fail)
  refine AW.frame_eq rfl (show _ = [Own.tail b' ((o ++ [g x]).map GFml.av).length c' 6, .box r (.st [.int .i64 0, .int .i64 0, .str empB, .sl [], .sl [], .sl []])] from by rw [hm]; rfl) ?_
  repeat' (first | (refine AW.r 6 ?_; refine AL.d AOp.ad ?_; refine xN 1 ?_) | fail)
  rw [← hm]
  refine AW.again_keep (kids.length - (i + 1)) [1, 2, 4, 5, 9, 10, 11] (by omega) ⟨i + 1, o ++ [g x], b', c', hlt, rfl, rfl, rfl, ?_⟩
  rw [he, List.take_add_one, hx]; simp
 ·have ho2 : o = kids.map g := by rw [he, List.take_of_length_le (by omega)]
  subst ho2
  have hw1 := hw (kids.map g)
  refine AW.as_sl 5 rfl ?_
  repeat' (first | refine AW.re 3 1 ?_ | (refine AW.r 7 ?_; refine AL.d AOp.la ?_; refine AL.es 1 ?_; refine AL.d (AOp.call rfl rfl (hw1.pure _)) ?_; refine AL.sl 1 ?_; refine AL.nil ?_) | refine AW.jj (fun hb => ?_) (fun hb => ?_) | refine AW.go ?_ | fail)
  all_goals try (exfalso; simp only [dT, dF, lM] at *; omega)
  exact AW.retc (.cell 1 rfl rfl (by kernel_rfl) .nil) (List.nil_sublist _) ⟨rfl, rfl⟩
def zF : AV := .st [.int .i64 0, .int .i64 0, .str empB, .sl [], .sl [], .sl []]
def kv4 : List (AV × AV) := [(.int .i64 4, .int .i64 5), (.int .i64 5, .int .i64 4), (.int .i64 6, .int .i64 7), (.int .i64 7, .int .i64 6)]
theorem kv4_miss {k : Int} (h : qk k = false) : mfind (.int .i64 k) kv4 0 = none := by
 simp only [qk, Bool.or_eq_false_iff, beq_eq_false_iff_ne, ne_eq] at h
 obtain ⟨⟨⟨h4, h5⟩, h6⟩, h7⟩ := h
 simp [mfind, kv4, keq, h4, h5, h6, h7]
theorem kv4_hit {k : Int} (h : qk k = true) : ∃ j, mfind (.int .i64 k) kv4 0 = some (j, .int .i64 (oth k)) := by
 simp only [qk, Bool.or_eq_true, beq_iff_eq] at h
 have : k = 4 ∨ k = 5 ∨ k = 6 ∨ k = 7 := by omega
 rcases this with rfl | rfl | rfl | rfl <;> exact ⟨_, rfl⟩
theorem n_nn : ∀ (N : Nat) (f : GFml), ndF f ≤ N → f.Ok → shsF f = true → Tri Tryz.prog 52 [f.st] [] (D (nnF f false).st []) ∧ Tri Tryz.prog 97 [f.st] [] (D (nnF f true).st []) := by
 intro N
 induction N using Nat.strongRecOn with
 | _ N ih =>
  intro f hN ho hsh
  have hnd := ndF_eq f
  rw [shsF_eq, bA] at hsh
  have hk3 := shaped_not1 hsh.2
  have hE0 := n_each f ho 52 [] (fun x => nnF x false) fun x hx => (ih (ndF x) (by have := ndFs_mem hx; omega) x (Nat.le_refl _) (by obtain ⟨_, _, h⟩ := ho; exact h x hx) (shsFs_mem hsh.1 hx)).1
  have hE1 := n_each f ho 97 [] (fun x => nnF x true) fun x hx => (ih (ndF x) (by have := ndFs_mem hx; omega) x (Nat.le_refl _) (by obtain ⟨_, _, h⟩ := ho; exact h x hx) (shsFs_mem hsh.1 hx)).2
  have hI := fun x (hx : x ∈ f.Kids) => ih (ndF x) (by have := ndFs_mem hx; omega) x (Nat.le_refl _) (by obtain ⟨_, _, h⟩ := ho; exact h x hx) (shsFs_mem hsh.1 hx)
  have hmap0 := nnL_map false f.Kids
  have hmap1 := nnL_map true f.Kids
  obtain ⟨k, ar, nm, vars, args, kids⟩ := f
  simp only at *
  rw [← hmap0] at hE0
  rw [← hmap1] at hE1
  have hA : Tri Tryz.prog 52 [(⟨k, ar, nm, vars, args, kids⟩ : GFml).st] [] (D (nnF ⟨k, ar, nm, vars, args, kids⟩ false).st []) := by
   rw [nnF]
   cases k3 : k == 3 with
   | true =>
    obtain ⟨h1, _⟩ := hk3 (by simpa using k3)
    obtain rfl : k = 3 := by simpa using k3
    obtain ⟨y, rfl⟩ : ∃ y, kids = [y] := by
     match kids, h1 with
     | [y], _ => exact ⟨y, rfl⟩
    have hy : ([y].map GFml.av)[((0 : Int)).toNat]? = some y.st := by simp [GFml.av_eq]
    have hc := (hI y (by simp)).2
    rw [cond_true, nnH, Bool.not_false]
    refine Tri.enter 13 Tryz.func52 rfl rfl rfl rfl fun Fr w0 => ?_
    repeat' (first | (refine AW.r 0 ?_; (refine AL.d (AOp.box_ro (v := .st [.int .i64 3, .int .i64 ar, .str nm, strs vars, strs args, .sl ([y].map GFml.av)]) rfl rfl) ?_) <;> refine AL.alloc_z (t := 25) zF (by kernel_rfl) rfl rfl fun r => ?_ <;> refine AL.nil ?_) | (refine AW.r 1 ?_; refine AL.d AOp.fa ?_; refine AL.d AOp.la ?_; refine xN 1 ?_) | (refine AW.r 2 ?_; refine AL.d AOp.fa ?_; refine AL.d AOp.la ?_; refine AL.d (iX hy) ?_; refine AL.d AOp.la ?_; refine AL.d (AOp.call rfl rfl (hc.pure _)) ?_; refine AL.sl 0 ?_; refine AL.nil ?_) | refine AW.jt ?_ | fail)
    exact AW.retc (.cell 0 rfl rfl (by kernel_rfl) .nil) (List.nil_sublist _) ⟨rfl, rfl⟩
   | false =>
    rw [cond_false]
    have hr : (bif qk k then (⟨bif false then oth k else k, ar, nm, vars, args, nnL kids false⟩ : GFml) else bif false then ⟨3, 0, empB, [], [], [⟨k, ar, nm, vars, args, nnL kids false⟩]⟩ else ⟨k, ar, nm, vars, args, nnL kids false⟩) = ⟨k, ar, nm, vars, args, nnL kids false⟩ := by cases qk k <;> rfl
    rw [hr]
    refine Tri.enter 13 Tryz.func52 rfl rfl rfl rfl fun Fr w0 => ?_
    repeat' (first | (refine AW.r 0 ?_; (refine AL.d (AOp.box_ro (v := .st [.int .i64 k, .int .i64 ar, .str nm, strs vars, strs args, .sl (kids.map GFml.av)]) rfl rfl) ?_) <;> refine AL.alloc_z (t := 25) zF (by kernel_rfl) rfl rfl fun r => ?_ <;> refine AL.nil ?_) | (refine AW.r 1 ?_; refine AL.d AOp.fa ?_; refine AL.d AOp.la ?_; refine xN 1 ?_) | (refine AW.r 3 ?_; refine AL.d AOp.la ?_; refine AL.d (AOp.call rfl rfl (hE0.pure _)) ?_; refine AL.sl 0 ?_; refine AL.nil ?_) | refine AW.jj (fun hb => ?_) (fun hb => ?_) | refine AW.go ?_ | fail)
    all_goals try (exfalso; rw [k3] at hb; exact Bool.noConfusion hb)
    exact AW.retc (.cell 0 rfl rfl (by kernel_rfl) .nil) (List.nil_sublist _) ⟨rfl, rfl⟩
  refine ⟨hA, ?_⟩
  rw [nnF] at hA ⊢
  cases k3 : k == 3 with
  | true =>
   obtain ⟨h1, _⟩ := hk3 (by simpa using k3)
   obtain rfl : k = 3 := by simpa using k3
   obtain ⟨y, rfl⟩ : ∃ y, kids = [y] := by
    match kids, h1 with
    | [y], _ => exact ⟨y, rfl⟩
   have hy : ([y].map GFml.av)[((0 : Int)).toNat]? = some y.st := by simp [GFml.av_eq]
   have hc := (hI y (by simp)).1
   rw [cond_true, nnH, Bool.not_true]
   refine Tri.enter 34 Tryz.func97 rfl rfl rfl rfl fun Fr w0 => ?_
   repeat' (first | (refine AW.r 0 ?_; (refine AL.d (AOp.box_ro (v := .st [.int .i64 3, .int .i64 ar, .str nm, strs vars, strs args, .sl ([y].map GFml.av)]) rfl rfl) ?_) <;> refine AL.alloc_z (t := 25) zF (by kernel_rfl) rfl rfl fun r => ?_ <;> refine AL.nil ?_) | (refine AW.r 1 ?_; refine AL.makeMap rfl fun bm => ?_; refine AL.insert (i := 0) (kd := .int .i64) (e := 3) rfl rfl rfl rfl (by kernel_rfl) rfl rfl ?_; refine AL.insert (i := 0) (kd := .int .i64) (e := 3) rfl rfl rfl rfl (by kernel_rfl) rfl rfl ?_; refine AL.insert (i := 0) (kd := .int .i64) (e := 3) rfl rfl rfl rfl (by kernel_rfl) rfl rfl ?_; refine AL.insert (i := 0) (kd := .int .i64) (e := 3) rfl rfl rfl rfl (by kernel_rfl) rfl rfl ?_; refine xN 2 ?_) | (refine AW.r 2 ?_; refine AL.d AOp.fa ?_; refine AL.d AOp.la ?_; refine xN 1 ?_) | (refine AW.r 3 ?_; refine AL.d AOp.fa ?_; refine AL.d AOp.la ?_; refine AL.d (iX hy) ?_; refine AL.d AOp.la ?_; refine AL.d (AOp.call rfl rfl (hc.pure _)) ?_; refine AL.sl 1 ?_; refine AL.nil ?_) | refine AW.jt ?_ | fail)
   exact AW.retc (.cell 1 rfl rfl (by kernel_rfl) .nil) (List.nil_sublist _) ⟨rfl, rfl⟩
  | false =>
   rw [cond_false]
   rw [k3, cond_false] at hA
   cases hq : qk k with
   | true =>
    obtain ⟨j, hj⟩ := kv4_hit hq
    rw [cond_true, cond_true]
    refine Tri.enter 34 Tryz.func97 rfl rfl rfl rfl fun Fr w0 => ?_
    repeat' (first | (refine AW.r 0 ?_; (refine AL.d (AOp.box_ro (v := .st [.int .i64 k, .int .i64 ar, .str nm, strs vars, strs args, .sl (kids.map GFml.av)]) rfl rfl) ?_) <;> refine AL.alloc_z (t := 25) zF (by kernel_rfl) rfl rfl fun r => ?_ <;> refine AL.nil ?_) | (refine AW.r 1 ?_; refine AL.makeMap rfl fun bm => ?_; refine AL.insert (i := 0) (kd := .int .i64) (e := 3) rfl rfl rfl rfl (by kernel_rfl) rfl rfl ?_; refine AL.insert (i := 0) (kd := .int .i64) (e := 3) rfl rfl rfl rfl (by kernel_rfl) rfl rfl ?_; refine AL.insert (i := 0) (kd := .int .i64) (e := 3) rfl rfl rfl rfl (by kernel_rfl) rfl rfl ?_; refine AL.insert (i := 0) (kd := .int .i64) (e := 3) rfl rfl rfl rfl (by kernel_rfl) rfl rfl ?_; refine xN 2 ?_) | (refine AW.r 2 ?_; refine AL.d AOp.fa ?_; refine AL.d AOp.la ?_; refine xN 1 ?_) | refine AW.jj (fun hb => ?_) (fun hb => ?_) | refine AW.go ?_ | fail)
    all_goals try (exfalso; rw [k3] at hb; exact Bool.noConfusion hb)
    repeat' (first | (refine xS 4 1 ?_; refine AL.d AOp.fa ?_; refine AL.d AOp.la ?_; refine AL.d (AOp.lookup_hit (i := 0) (kd := .int .i64) (e := 3) (ok := true) rfl rfl rfl (by kernel_rfl) rfl rfl hj) ?_; refine xN 5 ?_) | refine AW.re 5 1 ?_ | (refine AW.r 6 ?_; refine AL.d AOp.la ?_; refine AL.d (AOp.call rfl rfl (hE1.pure _)) ?_; refine AL.alloc_z (t := 25) zF (by kernel_rfl) rfl rfl fun r2 => ?_; refine AL.sl 0 ?_; refine AL.nil ?_) | (refine xS 7 1 ?_; refine AL.d (AOp.fr 0) ?_; refine AL.sl 0 ?_; refine AL.nil ?_) | (refine AW.r 8 ?_; refine AL.d (AOp.lw 0) ?_; refine AL.sl 2 ?_; refine AL.nil ?_) | refine AW.jt ?_ | fail)
    exact AW.retc (.cell 2 rfl rfl (by kernel_rfl) .nil) (List.nil_sublist _) ⟨rfl, rfl⟩
   | false =>
    rw [cond_false, cond_true]
    rw [hq, cond_false, cond_false] at hA
    refine Tri.enter 34 Tryz.func97 rfl rfl rfl rfl fun Fr w0 => ?_
    repeat' (first | (refine AW.r 0 ?_; (refine AL.d (AOp.box_ro (v := .st [.int .i64 k, .int .i64 ar, .str nm, strs vars, strs args, .sl (kids.map GFml.av)]) rfl rfl) ?_) <;> refine AL.alloc_z (t := 25) zF (by kernel_rfl) rfl rfl fun r => ?_ <;> refine AL.nil ?_) | (refine AW.r 1 ?_; refine AL.makeMap rfl fun bm => ?_; refine AL.insert (i := 0) (kd := .int .i64) (e := 3) rfl rfl rfl rfl (by kernel_rfl) rfl rfl ?_; refine AL.insert (i := 0) (kd := .int .i64) (e := 3) rfl rfl rfl rfl (by kernel_rfl) rfl rfl ?_; refine AL.insert (i := 0) (kd := .int .i64) (e := 3) rfl rfl rfl rfl (by kernel_rfl) rfl rfl ?_; refine AL.insert (i := 0) (kd := .int .i64) (e := 3) rfl rfl rfl rfl (by kernel_rfl) rfl rfl ?_; refine xN 2 ?_) | (refine AW.r 2 ?_; refine AL.d AOp.fa ?_; refine AL.d AOp.la ?_; refine xN 1 ?_) | refine AW.jj (fun hb => ?_) (fun hb => ?_) | refine AW.go ?_ | fail)
    all_goals try (exfalso; rw [k3] at hb; exact Bool.noConfusion hb)
    repeat' (first | (refine xS 4 1 ?_; refine AL.d AOp.fa ?_; refine AL.d AOp.la ?_; refine AL.d (AOp.lookup_miss (i := 0) (kd := .int .i64) (e := 3) (.int .i64 0) (ok := true) rfl rfl rfl (by kernel_rfl) (by kernel_rfl) rfl rfl (kv4_miss hq)) ?_; refine xN 5 ?_) | refine AW.re 5 1 ?_ | (refine AW.r 9 ?_; refine AL.d AOp.la ?_; refine AL.d (AOp.call rfl rfl (hA.pure _)) ?_; refine AL.d (AOp.lit (e := 25) (sz := 6) (by kernel_rfl) rfl rfl rfl (P_one rfl) (by decide)) ?_; refine AL.d (AOp.build (pl := [(0, 1), (1, 1), (2, 1), (3, 1), (4, 1), (5, 1)]) (z := .st [.int .i64 0, .int .i64 0, .str ⟨#[]⟩, .sl [], .sl [], .sl []]) (by kernel_rfl) rfl rfl rfl) ?_ <;> (refine AL.sl 1 ?_) <;> refine AL.nil ?_) | refine AW.jf ?_ | fail)
    refine AW.retc (.cell 1 rfl rfl (by kernel_rfl) .nil) (List.nil_sublist _) ⟨?_, rfl⟩
    simp [GFml.st, GFml.av_eq, resv, strs]
    exact ⟨rfl, rfl⟩
def noF : GFml := ⟨0, 0, empB, [], [], []⟩
theorem noF_ok : noF.Ok := .mk ⟨rfl, rfl, by show (0 : Nat) ≤ _; omega, lenOk_nil _ _, lenOk_nil _ _⟩ (by show 0 * 104 ≤ _; omega) (fun x hx => by cases hx)
def fitF (f : GFml) : GFml × Int := bif validF f then (f, 0) else (noF, 5)
theorem n_fit (f : GFml) (ho : f.Ok) : Tri Tryz.prog 51 [f.st] [] (D (.tup [(fitF f).1.st, .int .i64 (fitF f).2]) []) := by
 have hv := f_Valid f ho
 unfold fitF
 generalize validF f = V at *
 obtain ⟨k, ar, nm, vars, args, kids⟩ := f
 cases V with
 | true =>
  refine Tri.enter 9 Tryz.func51 rfl rfl rfl rfl fun Fr w0 => ?_
  repeat' (first | (refine AW.r 0 ?_; (refine AL.d (AOp.box_ro (v := .st [.int .i64 k, .int .i64 ar, .str nm, strs vars, strs args, .sl (kids.map GFml.av)]) rfl rfl) ?_) <;> refine AL.alloc_z (t := 25) zF (by kernel_rfl) rfl rfl fun r => ?_ <;> refine AL.es 1 ?_ <;> refine AL.nil ?_) | (refine AW.r 1 ?_; refine AL.d AOp.la ?_; refine AL.d (AOp.call rfl rfl (hv.pure _)) ?_; refine xN 1 ?_) | (refine AW.r 3 ?_; refine AL.d AOp.la ?_; refine AL.sl 0 ?_; refine xN 1 ?_) | refine AW.jf ?_ | fail)
  exact AW.retc (.cell 0 rfl rfl (by kernel_rfl) (.tmp rfl .nil)) (List.nil_sublist _) ⟨rfl, rfl⟩
 | false =>
  refine Tri.enter 9 Tryz.func51 rfl rfl rfl rfl fun Fr w0 => ?_
  repeat' (first | (refine AW.r 0 ?_; (refine AL.d (AOp.box_ro (v := .st [.int .i64 k, .int .i64 ar, .str nm, strs vars, strs args, .sl (kids.map GFml.av)]) rfl rfl) ?_) <;> refine AL.alloc_z (t := 25) zF (by kernel_rfl) rfl rfl fun r => ?_ <;> refine AL.es 1 ?_ <;> refine AL.nil ?_) | (refine AW.r 1 ?_; refine AL.d AOp.la ?_; refine AL.d (AOp.call rfl rfl (hv.pure _)) ?_; refine xN 1 ?_) | (refine AW.r 2 ?_; refine AL.d (AOp.build (pl := [(0, 1), (1, 1), (2, 1), (3, 1), (4, 1), (5, 1)]) (z := .st [.int .i64 0, .int .i64 0, .str ⟨#[]⟩, .sl [], .sl [], .sl []]) (by kernel_rfl) rfl rfl rfl) ?_ <;> refine AL.sl 0 ?_ <;> refine AL.es 1 ?_ <;> refine AL.nil ?_) | refine AW.jt ?_ | fail)
  exact AW.retc (.cell 0 rfl rfl (by kernel_rfl) (.tmp rfl .nil)) (List.nil_sublist _) ⟨rfl, rfl⟩
theorem validF_shs {f : GFml} (h : validF f = true) : shsF f = true := by
 unfold validF at h
 simp only [bA] at h
 exact h.1.1.1.2
def nnfP (f : GFml) : GFml × Int := bif validF f then fitF (nnF f false) else (noF, 1)
theorem n_Nnf (f : GFml) (ho : f.Ok) : Tri Tryz.prog 13 [f.st] [] (D (.tup [(nnfP f).1.st, .int .i64 (nnfP f).2]) []) := by
 have hv := f_Valid f ho
 have hF := n_fit (nnF f false) (nn_ok f false ho)
 have hN := fun h => (n_nn _ f (Nat.le_refl _) ho (validF_shs h)).1
 unfold nnfP
 generalize fitF (nnF f false) = R at *
 generalize nnF f false = g at *
 generalize validF f = V at *
 obtain ⟨R1, R2⟩ := R
 obtain ⟨k, ar, nm, vars, args, kids⟩ := f
 cases V with
 | true =>
  have hN' := hN rfl
  refine Tri.enter 13 Tryz.func13 rfl rfl rfl rfl fun Fr w0 => ?_
  repeat' (first | (refine AW.r 0 ?_; (refine AL.d (AOp.box_ro (v := .st [.int .i64 k, .int .i64 ar, .str nm, strs vars, strs args, .sl (kids.map GFml.av)]) rfl rfl) ?_) <;> refine AL.alloc_z (t := 25) zF (by kernel_rfl) rfl rfl fun r => ?_ <;> refine AL.es 1 ?_ <;> refine AL.nil ?_) | (refine AW.r 1 ?_; refine AL.d AOp.la ?_; refine AL.d (AOp.call rfl rfl (hv.pure _)) ?_; refine xN 1 ?_) | (refine AW.r 3 ?_; refine AL.d AOp.la ?_; refine AL.d (AOp.call rfl rfl (hN'.pure _)) ?_; refine AL.d (AOp.call rfl rfl (hF.pure _)) ?_; refine AL.es 2 ?_; refine AL.sl 0 ?_; refine xN 1 ?_) | refine AW.jf ?_ | fail)
  exact AW.retc (.cell 0 rfl rfl (by kernel_rfl) (.tmp rfl .nil)) (List.nil_sublist _) ⟨rfl, rfl⟩
 | false =>
  refine Tri.enter 13 Tryz.func13 rfl rfl rfl rfl fun Fr w0 => ?_
  repeat' (first | (refine AW.r 0 ?_; (refine AL.d (AOp.box_ro (v := .st [.int .i64 k, .int .i64 ar, .str nm, strs vars, strs args, .sl (kids.map GFml.av)]) rfl rfl) ?_) <;> refine AL.alloc_z (t := 25) zF (by kernel_rfl) rfl rfl fun r => ?_ <;> refine AL.es 1 ?_ <;> refine AL.nil ?_) | (refine AW.r 1 ?_; refine AL.d AOp.la ?_; refine AL.d (AOp.call rfl rfl (hv.pure _)) ?_; refine xN 1 ?_) | (refine AW.r 2 ?_; refine AL.d (AOp.build (pl := [(0, 1), (1, 1), (2, 1), (3, 1), (4, 1), (5, 1)]) (z := .st [.int .i64 0, .int .i64 0, .str ⟨#[]⟩, .sl [], .sl [], .sl []]) (by kernel_rfl) rfl rfl rfl) ?_ <;> refine AL.sl 0 ?_ <;> refine AL.es 1 ?_ <;> refine AL.nil ?_) | refine AW.jt ?_ | fail)
  exact AW.retc (.cell 0 rfl rfl (by kernel_rfl) (.tmp rfl .nil)) (List.nil_sublist _) ⟨rfl, rfl⟩
def bld0 (b : Nat) : AH := [.trow b 123 [.val (.pointer none), nilS]]
def bld1 (b : Nat) : AH := [.trow b 123 [.ref b 0, nilS]]
def bldW (b g : Nat) (us tl : List AV) : AH := [.trow b 123 [.ref b 0, .osl g us.length (us.length + tl.length)], .trow g 5 (us ++ tl)]
theorem copy0 (b : Nat) : Tri Tryz.prog 166 [.ref b 0] (bld0 b) (D (.tup []) (bld1 b)) := by
 refine Tri.enter 20 Tryz.func166 rfl rfl rfl rfl fun Fr w0 => ?_
 repeat' (first | (refine xS 0 2 ?_; refine AL.d (AOp.fr 0) ?_; refine AL.d (AOp.load_tcell 0 rfl rfl rfl rfl (by kernel_rfl)) ?_; refine AL.d (AOp.ptr_nil_nil 123 rfl (by kernel_rfl)) ?_; refine AL.nil ?_) | (refine xS 1 2 ?_; refine AL.d (AOp.conv_un (src := 120) (dst := 215) 0 123 rfl rfl (by kernel_rfl) (by kernel_rfl) (by kernel_rfl) (by decide)) ?_; refine AL.d (AOp.call_same rfl rfl Tryz.func187 (by kernel_rfl) (by kernel_rfl) (by kernel_rfl) (by kernel_rfl)) ?_; refine AL.d (AOp.conv_from (src := 215) (dst := 120) 0 rfl rfl (by kernel_rfl) (by kernel_rfl) (by kernel_rfl) (by kernel_rfl)) ?_; refine AL.es 1 ?_; refine AL.d (AOp.fr 0) ?_; refine AL.store_tcell 0 rfl rfl rfl rfl rfl rfl (by kernel_rfl) ?_; refine AL.nil ?_) | refine AW.jt ?_ | fail)
 exact AW.donev rfl ⟨rfl, rfl⟩
theorem copyW (b : Nat) (v : AV) : Tri Tryz.prog 166 [.ref b 0] [.trow b 123 [.ref b 0, v]] (D (.tup []) [.trow b 123 [.ref b 0, v]]) := by
 refine Tri.enter 20 Tryz.func166 rfl rfl rfl rfl fun Fr w0 => ?_
 repeat' (first | (refine xS 0 2 ?_; refine AL.d (AOp.fr 0) ?_; refine AL.d (AOp.load_tcell 0 rfl rfl rfl rfl (by kernel_rfl)) ?_; refine AL.d (AOp.ptr_nil_ref 123 rfl (by kernel_rfl)) ?_; refine AL.nil ?_) | (refine xS 2 2 ?_; refine AL.d (AOp.fr 0) ?_; refine AL.d (AOp.load_tcell 0 rfl rfl rfl rfl (by kernel_rfl)) ?_; refine AL.es 1 ?_; refine AL.d (AOp.ptr_ne_self 123 rfl rfl (by kernel_rfl) (by kernel_rfl)) ?_; refine AL.nil ?_) | refine AW.jf ?_ | refine AW.go ?_ | fail)
 exact AW.donev rfl ⟨rfl, rfl⟩
theorem ws0 (b : Nat) (s : ByteArray) (h0 : 0 < s.size) (hs : s.size ≤ 140737488355328) : Tri Tryz.prog 143 [.ref b 0, .str s] (bld0 b) (fun x h => (∃ v, x = .ret v) ∧ ∃ g tl, h = bldW b g (bytesAV s) tl) := by
 have hc := copy0 b
 refine Tri.enter 19 Tryz.func143 rfl rfl rfl rfl fun Fr w0 => ?_
 repeat' (first | refine AW.re 0 2 ?_ | (refine xS 1 1 ?_; refine AL.d (AOp.call rfl rfl hc) ?_; refine AL.nil ?_) | refine AW.go ?_ | fail)
 repeat' (first | (refine AW.r 2 ?_; refine AL.e ?_; refine AL.e ?_; refine AL.es 1 ?_; refine AL.d (AOp.fr 1) ?_; refine AL.d (AOp.load_tcell 0 rfl rfl rfl rfl (by kernel_rfl)) ?_; refine AL.e ?_; (refine AL.step rfl rfl (AOp.append_str0 (e := 5) rfl rfl h0 (by kernel_rfl) (by kernel_rfl) hs) ?_ (by rintro _ _ ⟨_, _, e, _⟩; cases e); rintro _ _ ⟨g, tl, e, rfl⟩; injection e with e; subst e) <;> refine AL.es 1 ?_ <;> (refine AL.d (AOp.fr 1) ?_) <;> (refine AL.store_tcell 1 rfl rfl rfl rfl rfl rfl (by kernel_rfl) ?_) <;> refine AL.nil ?_) | refine AW.go ?_ | fail)
 refine AW.perm (b := bldW b g (bytesAV s) tl) (.swap _ _ _) ?_
 repeat' (first | refine AW.re 3 4 ?_ | fail)
 exact AW.retv rfl ⟨⟨_, rfl⟩, _, _, rfl⟩
theorem wsW (b g : Nat) (us tl : List AV) (s : ByteArray) (hs : us.length + s.size ≤ 140737488355328) : Tri Tryz.prog 143 [.ref b 0, .str s] (bldW b g us tl) (fun x h => (∃ v, x = .ret v) ∧ ∃ g tl, h = bldW b g (us ++ bytesAV s) tl) := by
 have hc : Tri Tryz.prog 166 [.ref b 0] (bldW b g us tl) (D (.tup []) (bldW b g us tl)) := Tri.frameD (ah := bldW b g us tl) [true] (copyW b _)
 refine Tri.enter 19 Tryz.func143 rfl rfl rfl rfl fun Fr w0 => ?_
 repeat' (first | refine AW.re 0 2 ?_ | (refine xS 1 1 ?_; refine AL.d (AOp.call rfl rfl hc) ?_; refine AL.nil ?_) | refine AW.go ?_ | fail)
 repeat' (first | (refine AW.r 2 ?_; refine AL.e ?_; refine AL.e ?_; refine AL.es 1 ?_; refine AL.d (AOp.fr 1) ?_; refine AL.d (AOp.load_tcell 0 rfl rfl rfl rfl (by kernel_rfl)) ?_; refine AL.e ?_; (refine AL.step rfl rfl (AOp.append_str (i := 1) (us := us) (tl := tl) (e := 5) rfl rfl rfl (by kernel_rfl) (by kernel_rfl) hs) ?_ (by rintro _ _ ⟨_, _, e, _⟩; cases e); rintro _ _ ⟨g2, tl2, e, rfl⟩; injection e with e; subst e) <;> refine AL.es 1 ?_ <;> (refine AL.d (AOp.fr 1) ?_) <;> (refine AL.store_tcell 0 rfl rfl rfl rfl rfl rfl (by kernel_rfl) ?_) <;> refine AL.nil ?_) | refine AW.go ?_ | fail)
 repeat' (first | refine AW.re 3 4 ?_ | fail)
 exact AW.retv rfl ⟨⟨_, rfl⟩, _, _, rfl⟩
theorem wbW (b g : Nat) (us tl : List AV) (c : Int) (hs : us.length + 1 ≤ 140737488355328) : Tri Tryz.prog 144 [.ref b 0, .int .u8 c] (bldW b g us tl) (fun x h => (∃ v, x = .ret v) ∧ ∃ g tl, h = bldW b g (us ++ [.int .u8 c]) tl) := by
 have hc : Tri Tryz.prog 166 [.ref b 0] (bldW b g us tl) (D (.tup []) (bldW b g us tl)) := Tri.frameD (ah := bldW b g us tl) [true] (copyW b _)
 refine Tri.enter 17 Tryz.func144 rfl rfl rfl rfl fun Fr w0 => ?_
 repeat' (first | refine AW.re 0 1 ?_ | (refine xS 1 1 ?_; refine AL.d (AOp.call rfl rfl hc) ?_; refine AL.nil ?_) | refine AW.go ?_ | fail)
 repeat' (first | (refine AW.r 2 ?_; refine AL.e ?_; refine AL.e ?_; refine AL.es 1 ?_; refine AL.d (AOp.fr 1) ?_; refine AL.d (AOp.load_tcell 0 rfl rfl rfl rfl (by kernel_rfl)) ?_; refine AL.e ?_; refine AL.d (AOp.lit (e := 5) (sz := 1) (by kernel_rfl) rfl rfl rfl (P_one rfl) (by decide)) ?_; (refine AL.step rfl rfl (AOp.append_t (i := 1) (us := us) (tl := tl) (v := .int .u8 c) (e := 5) (bytes := 1) (c0 := .int .u8 0) rfl rfl rfl rfl rfl (by kernel_rfl) (by kernel_rfl) (by omega) (by omega)) ?_ (by rintro _ _ ⟨_, _, e, _⟩; cases e); rintro _ _ ⟨g2, tl2, e, rfl⟩; injection e with e; subst e) <;> refine AL.es 1 ?_ <;> (refine AL.d (AOp.fr 1) ?_) <;> (refine AL.store_tcell 0 rfl rfl rfl rfl rfl rfl (by kernel_rfl) ?_) <;> refine AL.nil ?_) | refine AW.go ?_ | fail)
 repeat' (first | refine AW.re 3 1 ?_ | fail)
 exact AW.retv rfl ⟨⟨_, rfl⟩, _, _, rfl⟩
theorem lenW (b g : Nat) (us tl : List AV) : Tri Tryz.prog 94 [.ref b 0] (bldW b g us tl) (D (.int .i64 us.length) (bldW b g us tl)) := by
 refine Tri.enter 8 Tryz.func94 rfl rfl rfl rfl fun Fr w0 => ?_
 repeat' (first | refine AW.re 0 1 ?_ | (refine xS 1 2 ?_; refine AL.d (AOp.fr 1) ?_; refine AL.d (AOp.load_tcell 0 rfl rfl rfl rfl (by kernel_rfl)) ?_; refine xN 2 ?_) | fail)
 exact AW.retv rfl ⟨rfl, rfl⟩
theorem strW (b g : Nat) (l : List UInt8) (tl : List AV) (h0 : l ≠ []) (hl : l.length ≤ 9223372036854775807) : Tri Tryz.prog 95 [.ref b 0] (bldW b g (bytesAV ⟨l.toArray⟩) tl) (D (.str ⟨l.toArray⟩) []) := by
 have hb : (bytesAV ⟨l.toArray⟩).length = l.length := by rw [bytesAV_length]; simp [ByteArray.size]
 have hp : 0 < l.length := List.length_pos_iff.2 h0
 refine Tri.enter 14 Tryz.func95 rfl rfl rfl rfl fun Fr w0 => ?_
 repeat' (first | refine AW.re 0 1 ?_ | refine AW.go ?_ | fail)
 repeat' (first | (refine AW.ex 1 [false, true] [10, 11] ?_; refine AQE.e ?_; refine AQE.e ?_; refine AQE.p rfl (AOp.fr 1) ?_; refine AQE.p rfl (AOp.load_tcell 0 rfl rfl rfl rfl (by kernel_rfl)) ?_; refine AQE.p rfl (AOp.sliceData rfl (by rw [hb]; exact hp)) ?_ <;> refine AQE.e ?_ <;> refine AQE.e ?_ <;> (refine AQE.p rfl (AOp.fr 1) ?_) <;> (refine AQE.p rfl (AOp.load_tcell 0 rfl rfl rfl rfl (by kernel_rfl)) ?_) <;> ((refine AQE.p rfl (AOp.len (n := l.length) rfl (by rw [← hb]; rfl) (by kernel_rfl)) ?_)) <;> refine AQE.hl ?_ <;> refine AQE.hl ?_ <;> refine AQE.nil ?_ <;> refine AX.o (n := 1) 10 ?_ <;> refine AXO.d (AOp.unsafeStr (i := 0) (l := l) (tl := tl) (e := 5) rfl rfl rfl h0 (by kernel_rfl) (by kernel_rfl) hl) ?_ <;> try dsimp only [sA, sB, sC, sD] <;> refine AX.o (n := 0) 11 ?_ <;> refine AXO.e ?_ <;> try dsimp only [sA, sB, sC, sD] <;> refine AX.done_keep [2] ?_) | fail)
 exact AW.ret_drop rfl (List.nil_sublist _) ⟨rfl, rfl⟩
def joinB (xs : List ByteArray) (sep : ByteArray) : ByteArray := ⟨(Lib.join (xs.map (·.data.toList)) sep.data.toList).toArray⟩
theorem Join_str (xs : List ByteArray) (sep : ByteArray) (hN : xs.length ≤ 140737488355328) (hlen : (joinB xs sep).size ≤ 140737488355328) : Tri Tryz.prog 145 [strs xs, .str sep] [] (D (.str (joinB xs sep)) []) := by
 refine ⟨⟨_, Tryz.func145, rfl, rfl⟩, fun Fr w vs hst hrel => ?_⟩
 simp only [RelVs] at hrel
 obtain ⟨u1, us, rfl, h1, h1', u2, us2, rfl, h2, h2', rfl⟩ := hrel
 obtain ⟨A, c, hu, k1, k2, k3⟩ := srcOf_rel (v := strs xs) ⟨h1, h1'⟩ rfl
 have hs : u2 = .string sep := Rel.str ⟨h2, h2'⟩
 subst hu hs
 rw [lM] at k1 ⊢
 have hmono : ∀ e w', e = Ending.returned (.string (joinB xs sep)) ∧ Below w.heap.size w w' → EndR Fr (reg []) w (D (.str (joinB xs sep)) []) e w' := by
  rintro e w' ⟨rfl, hb⟩
  have hext : Ext (fun _ _ => False) w w' := ⟨hb.os, hb.tape, hb.output, hb.size, fun k hk _ => hb.block k hk, fun ad v hc _ => (World.cell?_of_block (hb.block ad.block (cell_lt hc))).trans hc⟩
  exact ⟨_, _, ⟨rfl, rfl⟩, ⟨_, rfl, mk_str⟩, hst.grow hext, hext.mono fun _ _ h => h.elim, fun _ _ _ h => h⟩
 by_cases hx : xs = []
 ·subst hx
  refine (Tryz.strings_Join_none A c sep w).mono fun e w' ⟨he, hw⟩ => hmono e w' ⟨he, hw ▸ Below.refl _ _⟩
 ·obtain ⟨b, o, sz, rfl, hr⟩ := k3 (by simpa using hx)
  obtain ⟨ds, d1, d2, d3, d4⟩ := hr.cells
  have hsz1 : sz = 1 := by
   cases xs with
   | nil => exact (hx rfl).elim
   | cons x l => exact (d2 (.str x) (by simp)).symm
  subst hsz1
  have hcells : ∀ (j : Nat) x, xs[j]? = some x → w.cell? ⟨b, o + j, none⟩ = some (.string x) := fun j x hj => by
   obtain ⟨v, hv, hrv⟩ := RelCs.get1 d1 d2 j (.str x) (by simp [hj])
   simp only [RelC, List.cons.injEq, and_true] at hrv
   subst hrv
   exact (d4 j _ hv).2
  have hbk : b < w.heap.size := by
   cases xs with
   | nil => exact (hx rfl).elim
   | cons x l => exact cell_lt (hcells 0 x rfl)
  exact (Tryz.strings_Join b o c xs sep w hcells hbk hN k1 (by simpa [joinB, ByteArray.size] using hlen)).mono fun e w' h => hmono e w' h
def sp : ByteArray := ⟨#[32]⟩
def hdT (k : Int) (nm JV JA : ByteArray) : ByteArray :=
 if k = 0 then nm ++ ⟨#[40]⟩ ++ JA ++ ⟨#[41]⟩ else if k = 3 then ⟨#[110, 111, 116, 40]⟩ else if k = 5 then ⟨#[111, 114, 40]⟩ else ⟨#[97, 108, 108, 40]⟩ ++ JV ++ ⟨#[58, 32]⟩
mutual
def txA : GFml → List AV
 | ⟨k, ar, nm, vars, args, kids⟩ => bif k == 0 then bytesAV (hdT k nm (joinB vars sp) (joinB args sp)) else bytesAV (hdT k nm (joinB vars sp) (joinB args sp)) ++ txK true kids ++ [.int .u8 41]
def txK : Bool → List GFml → List AV
 | _, [] => []
 | fst, x :: l => (bif fst then [] else bytesAV ⟨#[44, 32]⟩) ++ txA x ++ txK false l
end
mutual
def wOk : GFml → Bool
 | ⟨k, ar, nm, vars, args, kids⟩ => decide (vars.length ≤ 1000000) && decide (args.length ≤ 1000000) && decide ((joinB vars sp).size ≤ 1000000) && decide ((joinB args sp).size ≤ 1000000) && decide (nm.size ≤ 1000000) && (k == 0 || k == 3 || (k == 5 && decide (0 < kids.length)) || k == 7) && wOks kids
def wOks : List GFml → Bool
 | [] => true
 | x :: l => wOk x && wOks l
end
def BW (b : Nat) (us : List AV) (h : AH) : Prop := (us = [] ∧ h = bld0 b) ∨ ∃ g tl, h = bldW b g us tl
theorem ws_any (b : Nat) (us : List AV) (h : AH) (s : ByteArray) (hB : BW b us h) (h0 : 0 < s.size) (hs : us.length + s.size ≤ 140737488355328) : Tri Tryz.prog 143 [.ref b 0, .str s] h (fun x h => (∃ v, x = .ret v) ∧ ∃ g tl, h = bldW b g (us ++ bytesAV s) tl) := by
 rcases hB with ⟨rfl, rfl⟩ | ⟨g, tl, rfl⟩
 ·exact ws0 b s h0 (by simpa using hs)
 ·exact wsW b g us tl s hs
def sepA (i : Nat) : List AV := bif i == 0 then [] else bytesAV ⟨#[44, 32]⟩
theorem wr_kids (k ar : Int) (nm : ByteArray) (vars args : List ByteArray) (kids : List GFml) (b : Nat) (hk : kids.length ≤ 1000000)
  (ih : ∀ x ∈ kids, ∀ g us tl, us.length + (txA x).length ≤ 1000000 → Tri Tryz.prog 93 [.ref b 0, x.st] (bldW b g us tl) (fun y h => y = .ret (.tup []) ∧ ∃ g' tl', h = bldW b g' (us ++ txA x) tl'))
  (g : Nat) (us tl : List AV) (hl : us.length + (txK true kids).length + 1 ≤ 1000000) :
  Tri Tryz.prog 142 [.at (.st [.int .i64 k, .int .i64 ar, .str nm, strs vars, strs args, .sl (kids.map GFml.av)]), .at (.ref b 0)] (bldW b g us tl) (fun y h => y = .ret (.tup []) ∧ ∃ g' tl', h = bldW b g' (us ++ txK true kids ++ [.int .u8 41]) tl') := by
 refine Tri.enter 22 Tryz.func142 rfl rfl rfl rfl fun Fr w0 => ?_
 repeat' (first | refine AW.re 0 4 ?_ | refine AW.go ?_ | fail)
 refine AW.prune [1, 5, 6, 7] (AW.loop (fun mz af h => ∃ (i : Nat) (gg : Nat) (uu : List AV) (tt : List AV), i ≤ kids.length ∧ mz = kids.length - i ∧ af = [(1, .at (.ref b 0)), (5, .sl (kids.map GFml.av)), (6, .int .i64 (kids.map GFml.av).length), (7, .int .i64 i)] ∧ h = bldW b gg uu tt ∧ (us ++ txK true kids = uu ++ txK (i == 0) (kids.drop i) ∧ uu.length + (txK (i == 0) (kids.drop i)).length + 1 ≤ 1000000)) kids.length ⟨0, g, us, tl, Nat.zero_le _, rfl, rfl, rfl, ⟨rfl, hl⟩⟩ ?_)
 rintro mz af h ⟨i, gg, uu, tt, hi, rfl, rfl, rfl, he⟩
 refine AW.seq ?_
 by_cases hlt : i < kids.length
 ·obtain ⟨he, hle⟩ := he
  obtain ⟨x, hx⟩ := get_lt hlt
  have hx' : (kids.map GFml.av)[((i : Nat) : Int).toNat]? = some (x.st) := GFml.get hx
  rw [drop_cons hx, txK] at he hle
  have hsep : (bif (i == 0) then [] else bytesAV ⟨#[44, 32]⟩) = sepA i := rfl
  rw [hsep] at he hle
  simp only [lA] at hle
  repeat' (first | refine AW.re 1 1 ?_ | refine AW.jj (fun hb => ?_) (fun hb => ?_) | refine AW.go ?_ | fail)
  all_goals try (exfalso; simp only [dT, dF, lM] at *; omega)
  repeat' (first | (refine xS 2 1 ?_; refine AL.d (iX hx') ?_; refine AL.es 1 ?_; refine AL.alloc_new (by kernel_rfl) rfl fun b3 => ?_; refine AL.es 1 ?_; refine AL.store_new rfl rfl (by kernel_rfl) rfl rfl ?_; refine AL.nil ?_) | fail)
  refine AW.seq ?_
  refine AW.cut (fun af ah => ∃ g1 t1, af = [(1, .at (.ref b 0)), (3, .at x.st), (5, .sl (kids.map GFml.av)), (6, .int .i64 (kids.map GFml.av).length), (7, .int .i64 i)] ∧ ah = bldW b g1 (uu ++ sepA i) t1) ?_ ?_
  ·have hw := wsW b gg uu tt ⟨#[44, 32]⟩ (by show uu.length + 2 ≤ _; omega)
   repeat' (first | refine AW.re 3 2 ?_ | (refine xS 4 1 ?_; (refine AL.callQ rfl rfl hw rfl ?_ ?_; rotate_left; rintro _ _ ⟨⟨_, e⟩, _⟩; cases e; rintro _ _ ⟨⟨v, e⟩, g2, t2, rfl⟩; injection e with e; subst e) <;> refine AL.nil ?_) | refine AW.jj (fun hb => ?_) (fun hb => ?_) | refine AW.go ?_ | fail)
   ·have h0 : (i == 0) = false := by simp only [dT] at hb; simp; omega
    exact AW.meet [1, 3, 5, 6, 7] ⟨g2, t2, rfl, by rw [sepA, h0]; rfl⟩
   ·have h0 : (i == 0) = true := by simp only [dF] at hb; simp; omega
    exact AW.meet [1, 3, 5, 6, 7] ⟨gg, tt, rfl, by rw [sepA, h0, cond_true, List.append_nil]⟩
  rintro af ah ⟨g1, t1, rfl, rfl⟩
  have hc := ih x (lG hx) g1 (uu ++ sepA i) t1 (by simp only [lA]; omega)
  repeat' (first | (refine xS 5 2 ?_; (refine AL.callQ rfl rfl hc rfl ?_ ?_; rotate_left; rintro _ _ ⟨e, _⟩; cases e; rintro _ _ ⟨e, g2, t2, rfl⟩; injection e with e; subst e) <;> refine AL.nil ?_) | refine AW.go ?_ | fail)
  repeat' (first | (refine AW.r 6 ?_; refine AL.d AOp.ad ?_; refine xN 1 ?_) | fail)
  have hi1 : (i + 1 == 0) = false := by simp
  refine AW.again_keep (kids.length - (i + 1)) [1, 5, 6, 7] (by omega) ⟨i + 1, g2, uu ++ sepA i ++ txA x, t2, hlt, rfl, rfl, rfl, ?_⟩
  rw [hi1]
  exact ⟨by rw [he]; simp only [List.append_assoc], by simp only [lA]; omega⟩
 ·obtain ⟨he, hle⟩ := he
  rw [List.drop_eq_nil_of_le (by omega), txK] at he
  have hw := wbW b gg uu tt 41 (by omega)
  repeat' (first | refine AW.re 1 1 ?_ | refine AW.jj (fun hb => ?_) (fun hb => ?_) | refine AW.go ?_ | fail)
  all_goals try (exfalso; simp only [dT, dF, lM] at *; omega)
  repeat' (first | (refine xS 7 1 ?_; (refine AL.callQ rfl rfl hw rfl ?_ ?_; rotate_left; rintro _ _ ⟨⟨_, e⟩, _⟩; cases e; rintro _ _ ⟨⟨v, e⟩, g2, t2, rfl⟩; injection e with e; subst e) <;> refine AL.nil ?_) | fail)
  exact AW.donev rfl ⟨rfl, _, _, by rw [he, List.append_nil]⟩
theorem wOks_mem {l : List GFml} {x : GFml} (h : wOks l = true) (hx : x ∈ l) : wOk x = true := by
 induction l with
 | nil => cases hx
 | cons y l ih =>
  rw [wOks, bA] at h
  rcases List.mem_cons.1 hx with rfl | hx
  ·exact h.1
  ·exact ih h.2 hx
theorem wr_write : ∀ (N : Nat) (f : GFml) (b : Nat) (us : List AV) (h : AH), ndF f ≤ N → f.Ok → wOk f = true → ndF f ≤ 1000000 → BW b us h → us.length + (txA f).length ≤ 1000000 →
  Tri Tryz.prog 93 [.ref b 0, f.st] h (fun y h' => y = .ret (.tup []) ∧ ∃ g' tl', h' = bldW b g' (us ++ txA f) tl') := by
 intro N
 induction N using Nat.strongRecOn with
 | _ N ih =>
  intro f b us h hN ho hw hnm hB hlen
  have hnd := ndF_eq f
  have hkl := ndFs_len f.Kids
  obtain ⟨_, q6, q7⟩ := ho
  have hK := fun (hw : wOks f.Kids = true) x (hx : x ∈ f.Kids) g us tl hl => ih (ndF x) (by have := ndFs_mem hx; omega) x b us (bldW b g us tl) (Nat.le_refl _) (q7 x hx) (wOks_mem hw hx) (by have := ndFs_mem hx; omega) (.inr ⟨g, tl, rfl⟩) hl
  obtain ⟨k, ar, nm, vars, args, kids⟩ := f
  simp only at *
  rw [wOk] at hw
  simp only [bA, dT] at hw
  obtain ⟨⟨⟨⟨⟨⟨w1, w2⟩, w3⟩, w4⟩, w5⟩, w6⟩, w7⟩ := hw
  have hV := Join_str vars sp (by omega) (by omega)
  have hA := Join_str args sp (by omega) (by omega)
  have hC := fun g us tl hl => wr_kids k ar nm vars args kids b (by omega) (hK w7) g us tl hl
  rw [txA] at hlen ⊢
  have hk : k = 0 ∨ k = 3 ∨ (k = 5 ∧ 0 < kids.length) ∨ k = 7 := by
   simp only [Bool.or_eq_true, bA, beq_iff_eq, dT] at w6
   omega
  have z1 : (⟨#[40]⟩ : ByteArray).size = 1 := rfl
  have z2 : (⟨#[41]⟩ : ByteArray).size = 1 := rfl
  have z3 : (⟨#[97, 108, 108, 40]⟩ : ByteArray).size = 4 := rfl
  have z4 : (⟨#[58, 32]⟩ : ByteArray).size = 2 := rfl
  have z5 : (⟨#[110, 111, 116, 40]⟩ : ByteArray).size = 4 ∧ (⟨#[111, 114, 40]⟩ : ByteArray).size = 3 := ⟨rfl, rfl⟩
  generalize joinB vars sp = JV at *
  generalize joinB args sp = JA at *
  rcases hk with rfl | rfl | ⟨rfl, hpos⟩ | rfl
  ·have e0 : ((0 : Int) == 0) = true := rfl
   rw [e0, cond_true] at hlen ⊢
   generalize hhd : hdT 0 nm JV JA = hd at *
   have hd' : hd = nm ++ ⟨#[40]⟩ ++ JA ++ ⟨#[41]⟩ := by rw [← hhd]; rfl
   have hsz : 0 < hd.size ∧ hd.size ≤ 2000010 := by rw [hd']; simp only [ByteArray.size_append, z1, z2]; omega
   rw [bytesAV_length] at hlen
   have hw1 := ws_any b us h hd hB hsz.1 (by omega)
   rw [hd'] at hw1
   refine Tri.enter 153 Tryz.func93 rfl rfl rfl rfl fun Fr w0 => ?_
   repeat' (first | (refine AW.r 0 ?_; refine AL.d (AOp.box_ro (v := .ref b 0) rfl rfl) ?_; (refine AL.d (AOp.box_ro (v := .st [.int .i64 0, .int .i64 ar, .str nm, strs vars, strs args, .sl (kids.map GFml.av)]) rfl rfl) ?_) <;> refine AL.nil ?_) | refine AW.re 1 2 ?_ | (refine AW.dq 2 ?_; refine AQ.es 2 ?_; refine AQ.p rfl (AOp.call rfl rfl (hV.pure _)) ?_; refine AQ.es 2 ?_; refine AQ.p rfl (AOp.call rfl rfl (hA.pure _)) ?_; refine AQ.es 2 ?_; refine AQ.nil ?_) | refine AW.re 3 2 ?_ | refine AW.re 4 2 ?_ | (refine xS 5 3 ?_; ((refine AL.d (AOp.str_add rfl rfl (by simp only [ByteArray.size_append, z1, z2, z3, z4]; omega)) ?_)) <;> refine AL.es 1 ?_ <;> ((refine AL.d (AOp.str_add rfl rfl (by simp only [ByteArray.size_append, z1, z2, z3, z4]; omega)) ?_)) <;> ((refine AL.d (AOp.str_add rfl rfl (by simp only [ByteArray.size_append, z1, z2, z3, z4]; omega)) ?_)) <;> (((refine AL.callQ rfl rfl hw1 rfl ?_ ?_; rotate_left; rintro _ _ ⟨⟨_, e⟩, _⟩; cases e; rintro _ _ ⟨⟨v, e⟩, g1, t1, rfl⟩; injection e with e; subst e))) <;> refine AL.nil ?_) | refine AW.jt ?_ | refine AW.go ?_ | fail)
   exact AW.donev rfl ⟨rfl, _, _, by rw [hd']⟩
  ·have e0 : ((3 : Int) == 0) = false := rfl
   rw [e0, cond_false] at hlen ⊢
   generalize hhd : hdT 3 nm JV JA = hd at *
   have hd' : hd = ⟨#[110, 111, 116, 40]⟩ := by rw [← hhd]; rfl
   have hsz : 0 < hd.size ∧ hd.size ≤ 2000010 := by rw [hd']; simp only [ByteArray.size_append, z1, z2, z3, z4, z5]; omega
   simp only [lA, List.length_singleton, bytesAV_length] at hlen
   have hw1 := ws_any b us h hd hB hsz.1 (by omega)
   rw [hd'] at hw1
   refine Tri.enter 153 Tryz.func93 rfl rfl rfl rfl fun Fr w0 => ?_
   repeat' (first | (refine AW.r 0 ?_; refine AL.d (AOp.box_ro (v := .ref b 0) rfl rfl) ?_; (refine AL.d (AOp.box_ro (v := .st [.int .i64 3, .int .i64 ar, .str nm, strs vars, strs args, .sl (kids.map GFml.av)]) rfl rfl) ?_) <;> refine AL.nil ?_) | refine AW.re 1 2 ?_ | (refine AW.dq 2 ?_; refine AQ.es 2 ?_; refine AQ.p rfl (AOp.call rfl rfl (hV.pure _)) ?_; refine AQ.es 2 ?_; refine AQ.p rfl (AOp.call rfl rfl (hA.pure _)) ?_; refine AQ.es 2 ?_; refine AQ.nil ?_) | refine AW.re 3 2 ?_ | refine AW.re 4 2 ?_ | refine AW.re 6 2 ?_ | refine AW.re 8 2 ?_ | refine AW.re 10 2 ?_ | (refine xS 11 1 ?_; (((refine AL.callQ rfl rfl hw1 rfl ?_ ?_; rotate_left; rintro _ _ ⟨⟨_, e⟩, _⟩; cases e; rintro _ _ ⟨⟨v, e⟩, g1, t1, rfl⟩; injection e with e; subst e))) <;> refine AL.nil ?_) | refine AW.jt ?_ | refine AW.jf ?_ | fail)
   rw [← hd']
   have hc := hC g1 (us ++ bytesAV hd) t1 (by simp only [lA, bytesAV_length]; omega)
   repeat' (first | (refine xS 12 1 ?_; (refine AL.callQ rfl rfl hc rfl ?_ ?_; rotate_left; rintro _ _ ⟨e, _⟩; cases e; rintro _ _ ⟨e, g2, t2, rfl⟩; injection e with e; subst e) <;> refine AL.nil ?_) | refine AW.go ?_ | fail)
   exact AW.donev rfl ⟨rfl, g2, t2, by simp only [List.append_assoc]⟩
  ·have e0 : ((5 : Int) == 0) = false := rfl
   rw [e0, cond_false] at hlen ⊢
   generalize hhd : hdT 5 nm JV JA = hd at *
   have hd' : hd = ⟨#[111, 114, 40]⟩ := by rw [← hhd]; rfl
   have hsz : 0 < hd.size ∧ hd.size ≤ 2000010 := by rw [hd']; simp only [ByteArray.size_append, z1, z2, z3, z4, z5]; omega
   simp only [lA, List.length_singleton, bytesAV_length] at hlen
   have hw1 := ws_any b us h hd hB hsz.1 (by omega)
   rw [hd'] at hw1
   refine Tri.enter 153 Tryz.func93 rfl rfl rfl rfl fun Fr w0 => ?_
   repeat' (first | (refine AW.r 0 ?_; refine AL.d (AOp.box_ro (v := .ref b 0) rfl rfl) ?_; (refine AL.d (AOp.box_ro (v := .st [.int .i64 5, .int .i64 ar, .str nm, strs vars, strs args, .sl (kids.map GFml.av)]) rfl rfl) ?_) <;> refine AL.nil ?_) | refine AW.re 1 2 ?_ | (refine AW.dq 2 ?_; refine AQ.es 2 ?_; refine AQ.p rfl (AOp.call rfl rfl (hV.pure _)) ?_; refine AQ.es 2 ?_; refine AQ.p rfl (AOp.call rfl rfl (hA.pure _)) ?_; refine AQ.es 2 ?_; refine AQ.nil ?_) | refine AW.re 3 2 ?_ | refine AW.re 4 2 ?_ | refine AW.re 6 2 ?_ | refine AW.re 8 2 ?_ | refine AW.re 10 2 ?_ | refine AW.re 13 2 ?_ | refine AW.re 14 2 ?_ | (refine AW.r 15 ?_; refine AL.d (AOp.buildA (z := .st [.str empB, .str empB]) (n := 2) (sz := 1) (zc := [.string ⟨#[]⟩, .string ⟨#[]⟩]) (by kernel_rfl) rfl rfl rfl) ?_; refine AL.d (AOp.buildA (z := .st [.str empB, .str empB]) (n := 2) (sz := 1) (zc := [.string ⟨#[]⟩, .string ⟨#[]⟩]) (by kernel_rfl) rfl rfl rfl) ?_; refine AL.d (AOp.buildA (z := .st [.st [.str empB, .str empB], .st [.str empB, .str empB]]) (n := 2) (sz := 2) (zc := [.string ⟨#[]⟩, .string ⟨#[]⟩, .string ⟨#[]⟩, .string ⟨#[]⟩]) (by kernel_rfl) rfl rfl rfl) ?_; refine AL.es 2 ?_; refine AL.d AOp.sb ?_; refine AL.d (AOp.index_arrA (n := 2) (e := 179) rfl rfl (by omega) (by omega) rfl (by kernel_rfl) (by kernel_rfl) rfl) ?_; refine AL.alloc_store (by kernel_rfl) rfl rfl rfl rfl ?_; refine AL.nil ?_) | refine AW.re 16 4 ?_ | refine AW.jt ?_ | refine AW.jf ?_ | refine AW.jj (fun hb => ?_) (fun hb => ?_) | refine AW.go ?_ | fail)
   all_goals try (exfalso; simp only [lM, beq_iff_eq] at hb; omega)
   repeat' (first | (refine xS 18 1 ?_; refine AL.d (AOp.index_at (n := 2) (sz := 1) (zc := [.string ⟨#[]⟩, .string ⟨#[]⟩]) rfl rfl (by omega) (by omega) rfl (by kernel_rfl) rfl) ?_; refine AL.es 1 ?_; (((refine AL.callQ rfl rfl hw1 rfl ?_ ?_; rotate_left; rintro _ _ ⟨⟨_, e⟩, _⟩; cases e; rintro _ _ ⟨⟨v, e⟩, g1, t1, rfl⟩; injection e with e; subst e))) <;> refine AL.nil ?_) | fail)
   rw [← hd']
   have hc := hC g1 (us ++ bytesAV hd) t1 (by simp only [lA, bytesAV_length]; omega)
   repeat' (first | (refine xS 19 1 ?_; (refine AL.callQ rfl rfl hc rfl ?_ ?_; rotate_left; rintro _ _ ⟨e, _⟩; cases e; rintro _ _ ⟨e, g2, t2, rfl⟩; injection e with e; subst e) <;> refine AL.nil ?_) | refine AW.go ?_ | fail)
   exact AW.donev rfl ⟨rfl, g2, t2, by simp only [List.append_assoc]⟩
  ·have e0 : ((7 : Int) == 0) = false := rfl
   rw [e0, cond_false] at hlen ⊢
   generalize hhd : hdT 7 nm JV JA = hd at *
   have hd' : hd = ⟨#[97, 108, 108, 40]⟩ ++ JV ++ ⟨#[58, 32]⟩ := by rw [← hhd]; rfl
   have hsz : 0 < hd.size ∧ hd.size ≤ 2000010 := by rw [hd']; simp only [ByteArray.size_append, z1, z2, z3, z4, z5]; omega
   simp only [lA, List.length_singleton, bytesAV_length] at hlen
   have hw1 := ws_any b us h hd hB hsz.1 (by omega)
   rw [hd'] at hw1
   refine Tri.enter 153 Tryz.func93 rfl rfl rfl rfl fun Fr w0 => ?_
   repeat' (first | (refine AW.r 0 ?_; refine AL.d (AOp.box_ro (v := .ref b 0) rfl rfl) ?_; (refine AL.d (AOp.box_ro (v := .st [.int .i64 7, .int .i64 ar, .str nm, strs vars, strs args, .sl (kids.map GFml.av)]) rfl rfl) ?_) <;> refine AL.nil ?_) | refine AW.re 1 2 ?_ | (refine AW.dq 2 ?_; refine AQ.es 2 ?_; refine AQ.p rfl (AOp.call rfl rfl (hV.pure _)) ?_; refine AQ.es 2 ?_; refine AQ.p rfl (AOp.call rfl rfl (hA.pure _)) ?_; refine AQ.es 2 ?_; refine AQ.nil ?_) | refine AW.re 3 2 ?_ | refine AW.re 4 2 ?_ | refine AW.re 6 2 ?_ | refine AW.re 8 2 ?_ | refine AW.re 10 2 ?_ | refine AW.re 13 2 ?_ | refine AW.re 14 2 ?_ | refine AW.re 20 2 ?_ | refine AW.re 21 2 ?_ | (refine AW.dl 22 9 ?_; refine AQ.es 1 ?_; refine AQ.p rfl (AOp.buildA (z := .st [.str empB, .str empB]) (n := 2) (sz := 1) (zc := [.string ⟨#[]⟩, .string ⟨#[]⟩]) (by kernel_rfl) rfl rfl rfl) ?_; refine AQ.es 2 ?_; refine AQ.p rfl AOp.sb ?_; refine AQ.p rfl (AOp.index_arr (n := 2) (e := 9) rfl rfl (by omega) (by omega) rfl (by kernel_rfl) (by kernel_rfl) rfl) ?_; refine AQ.es 1 ?_; ((refine AQ.p rfl (AOp.str_add rfl rfl (by simp only [ByteArray.size_append, z1, z2, z3, z4]; omega)) ?_)) <;> ((refine AQ.p rfl (AOp.str_add rfl rfl (by simp only [ByteArray.size_append, z1, z2, z3, z4]; omega)) ?_)) <;> refine AQ.nil ?_ <;> (((refine AL.callQ rfl rfl hw1 rfl ?_ ?_; rotate_left; rintro _ _ ⟨⟨_, e⟩, _⟩; cases e; rintro _ _ ⟨⟨v, e⟩, g1, t1, rfl⟩; injection e with e; subst e))) <;> refine AL.nil ?_) | refine AW.jt ?_ | refine AW.jf ?_ | fail)
   rw [← hd']
   have hc := hC g1 (us ++ bytesAV hd) t1 (by simp only [lA, bytesAV_length]; omega)
   repeat' (first | (refine xS 23 1 ?_; (refine AL.callQ rfl rfl hc rfl ?_ ?_; rotate_left; rintro _ _ ⟨e, _⟩; cases e; rintro _ _ ⟨e, g2, t2, rfl⟩; injection e with e; subst e) <;> refine AL.nil ?_) | refine AW.go ?_ | fail)
   exact AW.donev rfl ⟨rfl, g2, t2, by simp only [List.append_assoc]⟩
theorem f_Text (f : GFml) (ho : f.Ok) (hv : validF f = true) (hw : wOk f = true) (hn : ndF f ≤ 1000000) (l : List UInt8) (hl : txA f = bytesAV ⟨l.toArray⟩) (h0 : l ≠ []) (h4 : l.length ≤ 40000) :
  Tri Tryz.prog 49 [f.st] [] (D (.tup [.str ⟨l.toArray⟩, .int .i64 0]) []) := by
 have hV := f_Valid f ho
 have hbl : (bytesAV ⟨l.toArray⟩).length = l.length := by rw [bytesAV_length]; simp [ByteArray.size]
 have hW := fun b => wr_write _ f b [] (bld0 b) (Nat.le_refl _) ho hw hn (.inl ⟨rfl, rfl⟩) (by rw [hl, hbl]; simp; omega)
 rw [hl, List.nil_append] at hW
 rw [hv] at hV
 clear hl hv hw hn
 obtain ⟨k, ar, nm, vars, args, kids⟩ := f
 refine Tri.enter 13 Tryz.func49 rfl rfl rfl rfl fun Fr w0 => ?_
 repeat' (first | (refine AW.r 0 ?_; (refine AL.d (AOp.box_ro (v := .st [.int .i64 k, .int .i64 ar, .str nm, strs vars, strs args, .sl (kids.map GFml.av)]) rfl rfl) ?_) <;> refine AL.es 2 ?_ <;> refine AL.nil ?_) | (refine xS 1 1 ?_; refine AL.d (AOp.call rfl rfl (hV.pure _)) ?_; refine xN 1 ?_) | refine AW.jf ?_ | refine AW.go ?_ | fail)
 repeat' (first | (refine AW.r 3 ?_; refine AL.alloc_t [.val (.pointer none), nilS] (by kernel_rfl) rfl (by simp [AV.size, nilS]; exact ⟨rfl, rfl⟩) rfl fun b => ?_ <;> refine AL.nil ?_) | refine AW.go ?_ | fail)
 have hw := hW b
 repeat' (first | (refine xS 4 1 ?_; (refine AL.callQ rfl rfl hw rfl ?_ ?_; rotate_left; rintro _ _ ⟨e, _⟩; cases e; rintro _ _ ⟨e, g, t, rfl⟩; injection e with e; subst e) <;> refine AL.nil ?_) | refine AW.go ?_ | fail)
 have hL := lenW b g (bytesAV ⟨l.toArray⟩) t
 rw [hbl] at hL
 have hS := strW b g l t h0 (by omega)
 repeat' (first | (refine AW.r 5 ?_; refine AL.d (AOp.call rfl rfl hL) ?_; refine xN 1 ?_) | (refine AW.r 7 ?_; refine AL.d (AOp.call rfl rfl hS) ?_; refine xN 2 ?_) | refine AW.jj (fun hb => ?_) (fun hb => ?_) | refine AW.go ?_ | fail)
 ·exfalso; simp only [dT] at hb; omega
 exact AW.retv rfl ⟨rfl, rfl⟩
def bsx : ByteArray := ⟨#[120]⟩
def bsy : ByteArray := ⟨#[121]⟩
def alF : GFml := ⟨3, 0, empB, [], [], [⟨6, 0, empB, [bsx], [], [⟨4, 0, empB, [], [], [⟨0, 0, ⟨#[69]⟩, [], [bsx, bsy], []⟩, ⟨3, 0, empB, [], [], [⟨0, 0, ⟨#[80]⟩, [], [bsx], []⟩]⟩]⟩]⟩]⟩
def alG : GFml := ⟨7, 0, empB, [bsx], [], [⟨5, 0, empB, [], [], [⟨3, 0, empB, [], [], [⟨0, 0, ⟨#[69]⟩, [], [bsx, bsy], []⟩]⟩, ⟨0, 0, ⟨#[80]⟩, [], [bsx], []⟩]⟩]⟩
def alT : List UInt8 := [97, 108, 108, 40, 120, 58, 32, 111, 114, 40, 110, 111, 116, 40, 69, 40, 120, 32, 121, 41, 41, 44, 32, 80, 40, 120, 41, 41, 41]
theorem al_valid : validF alF = true := by kernel_rfl
theorem al_validG : validF alG = true := by kernel_rfl
theorem al_nnf : nnF alF false = alG := rfl
theorem al_tx : txA alG = bytesAV ⟨alT.toArray⟩ := by kernel_rfl
theorem al_w : wOk alG = true := by kernel_rfl
theorem al_ok : alF.Ok := by
 have hl : ∀ (l : List ByteArray), l.length ≤ 2 → (∀ s ∈ l, s.size ≤ 2) → lenOk 16 strOk l := fun l h1 h2 => ⟨by omega, fun s hs => by have := h2 s hs; show s.size ≤ _; omega⟩
 have hs : ∀ (s : ByteArray), s.size ≤ 2 → strOk s := fun s h => by show s.size ≤ _; omega
 have hb : ∀ s ∈ ([bsx, bsy] : List ByteArray), s.size ≤ 2 := by intro s h; simp at h; rcases h with rfl | rfl <;> decide
 have hb1 : ∀ s ∈ ([bsx] : List ByteArray), s.size ≤ 2 := by intro s h; simp at h; subst h; decide
 have hb0 : ∀ s ∈ ([] : List ByteArray), s.size ≤ 2 := by intro s h; cases h
 refine .mk ⟨rfl, rfl, hs _ (by decide), hl _ (by decide) hb0, hl _ (by decide) hb0⟩ (by decide) fun x hx => ?_
 obtain rfl := List.mem_singleton.1 hx
 refine .mk ⟨rfl, rfl, hs _ (by decide), hl _ (by decide) hb1, hl _ (by decide) hb0⟩ (by decide) fun x hx => ?_
 obtain rfl := List.mem_singleton.1 hx
 refine .mk ⟨rfl, rfl, hs _ (by decide), hl _ (by decide) hb0, hl _ (by decide) hb0⟩ (by decide) fun x hx => ?_
 rcases List.mem_cons.1 hx with rfl | hx
 ·exact .mk ⟨rfl, rfl, hs _ (by decide), hl _ (by decide) hb0, hl _ (by decide) hb⟩ (by decide) fun x hx => by cases hx
 obtain rfl := List.mem_singleton.1 hx
 refine .mk ⟨rfl, rfl, hs _ (by decide), hl _ (by decide) hb0, hl _ (by decide) hb0⟩ (by decide) fun x hx => ?_
 obtain rfl := List.mem_singleton.1 hx
 exact .mk ⟨rfl, rfl, hs _ (by decide), hl _ (by decide) hb0, hl _ (by decide) hb1⟩ (by decide) fun x hx => by cases hx
theorem P_cons {P : AV → Prop} {y : AV} {l : List AV} (h : P y) (k : ∀ x ∈ l, P x) : ∀ x ∈ y :: l, P x := fun x hx => (List.mem_cons.1 hx).elim (fun e => e ▸ h) (k x)
theorem alive : Tri Tryz.prog 12 [] [] (D (.bool true) []) := by
 have hN := n_Nnf alF al_ok
 have hn : nnfP alF = (alG, 0) := by rw [nnfP, al_valid, cond_true, al_nnf, fitF, al_validG, cond_true]
 rw [hn] at hN
 have hT := f_Text alG (by rw [← al_nnf]; exact nn_ok _ _ al_ok) al_validG al_w (by decide) alT al_tx (by decide) (by decide)
 refine Tri.enter 37 Tryz.func12 rfl rfl rfl rfl fun Fr w0 => ?_
 repeat' (first | refine AW.re 0 1 ?_ | (refine AW.r 1 ?_; (refine AL.d (AOp.lit (t := 22) (e := 9) (sz := 1) (by kernel_rfl) rfl rfl rfl (by repeat' first | exact P_nil | refine P_cons rfl ?_) (by decide)) ?_) <;> (refine AL.d (AOp.lit (t := 22) (e := 9) (sz := 1) (by kernel_rfl) rfl rfl rfl (by repeat' first | exact P_nil | refine P_cons rfl ?_) (by decide)) ?_) <;> refine AL.d (AOp.build (pl := [(0, 1), (1, 1), (2, 1), (3, 1), (4, 1), (5, 1)]) (z := .st [.int .i64 0, .int .i64 0, .str ⟨#[]⟩, .sl [], .sl [], .sl []]) (by kernel_rfl) rfl rfl rfl) ?_ <;> (refine AL.d (AOp.lit (t := 22) (e := 9) (sz := 1) (by kernel_rfl) rfl rfl rfl (by repeat' first | exact P_nil | refine P_cons rfl ?_) (by decide)) ?_) <;> refine AL.d (AOp.build (pl := [(0, 1), (1, 1), (2, 1), (3, 1), (4, 1), (5, 1)]) (z := .st [.int .i64 0, .int .i64 0, .str ⟨#[]⟩, .sl [], .sl [], .sl []]) (by kernel_rfl) rfl rfl rfl) ?_ <;> (refine AL.d (AOp.lit (t := 23) (e := 25) (sz := 6) (by kernel_rfl) rfl rfl rfl (by repeat' first | exact P_nil | refine P_cons rfl ?_) (by decide)) ?_) <;> refine AL.d (AOp.build (pl := [(0, 1), (1, 1), (2, 1), (3, 1), (4, 1), (5, 1)]) (z := .st [.int .i64 0, .int .i64 0, .str ⟨#[]⟩, .sl [], .sl [], .sl []]) (by kernel_rfl) rfl rfl rfl) ?_ <;> (refine AL.d (AOp.lit (t := 23) (e := 25) (sz := 6) (by kernel_rfl) rfl rfl rfl (by repeat' first | exact P_nil | refine P_cons rfl ?_) (by decide)) ?_) <;> refine AL.d (AOp.build (pl := [(0, 1), (1, 1), (2, 1), (3, 1), (4, 1), (5, 1)]) (z := .st [.int .i64 0, .int .i64 0, .str ⟨#[]⟩, .sl [], .sl [], .sl []]) (by kernel_rfl) rfl rfl rfl) ?_ <;> (refine AL.d (AOp.lit (t := 23) (e := 25) (sz := 6) (by kernel_rfl) rfl rfl rfl (by repeat' first | exact P_nil | refine P_cons rfl ?_) (by decide)) ?_) <;> refine AL.d (AOp.build (pl := [(0, 1), (1, 1), (2, 1), (3, 1), (4, 1), (5, 1)]) (z := .st [.int .i64 0, .int .i64 0, .str ⟨#[]⟩, .sl [], .sl [], .sl []]) (by kernel_rfl) rfl rfl rfl) ?_ <;> (refine AL.d (AOp.lit (t := 23) (e := 25) (sz := 6) (by kernel_rfl) rfl rfl rfl (by repeat' first | exact P_nil | refine P_cons rfl ?_) (by decide)) ?_) <;> refine AL.d (AOp.build (pl := [(0, 1), (1, 1), (2, 1), (3, 1), (4, 1), (5, 1)]) (z := .st [.int .i64 0, .int .i64 0, .str ⟨#[]⟩, .sl [], .sl [], .sl []]) (by kernel_rfl) rfl rfl rfl) ?_ <;> refine AL.d (AOp.call rfl rfl hN) ?_ <;> refine AL.es 3 ?_ <;> refine AL.alloc_store (by kernel_rfl) rfl rfl rfl rfl ?_ <;> refine AL.es 1 ?_ <;> refine AL.nil ?_) | refine AW.go ?_ | fail)
 repeat' (first | (refine xS 2 1 ?_; refine AL.d (AOp.call rfl rfl hT) ?_; refine xN 5 ?_) | (refine xS 3 3 ?_; refine AL.es 4 ?_; refine xN 4 ?_) | fail)
 exact AW.retv rfl ⟨retB (by rw [toList_beq]; exact (decide_eq_true rfl).symm), rfl⟩
theorem few_one (most : Int) (hm : 0 ≤ most ∧ most ≤ 1000000) (f : GFml) (ho : f.Ok) : Tri Tryz.prog 9 [.int .i64 most, .sl [f.st]] [] (D (.bool (decide (wFs most [f] 0 ≤ most))) []) := by
 have h := law_Few most hm [f] (by simp) (by intro x hx; rw [List.mem_singleton.1 hx]; exact ho)
 rw [List.map_cons, List.map_nil, GFml.av_eq] at h
 exact h
theorem rules_v1 (k : Int) : (rulesP k).v1 ≤ 24 := by
 unfold rulesP
 repeat' split
 all_goals decide
theorem shaped_vars {f : GFml} (h : shapedP f = true) : f.Vars.length ≤ 24 := by
 simp only [shapedP, shp3, bA, dT] at h
 have h1 := h.2.1.2.1.2
 have h2 := rules_v1 f.Kind
 omega
theorem rules_a1 (k : Int) : (rulesP k).a1 ≤ 24 := by
 unfold rulesP
 repeat' split
 all_goals decide
theorem shaped_args {f : GFml} (h : shapedP f = true) : f.Args.length ≤ 24 := by
 simp only [shapedP, shp3, bA, dT] at h
 have h1 := h.2.1.1.1.2
 have h2 := rules_a1 f.Kind
 omega
def has (l : List ByteArray) (s : ByteArray) : Bool := l.any fun x => decide (x = s)
theorem Among_has (xs : List ByteArray) (hl : xs.length ≤ 4611686018427387904) (s : ByteArray) : Tri Tryz.prog 17 [strs xs, .str s] [] (D (.bool (has xs s)) []) := ref_Among xs s hl
abbrev SP := Option (ByteArray × ByteArray)
def SP.m (o : SP) : List (ByteArray × ByteArray) := o.toList
end Go.Proofs.YtlpndgodkkndnaaGreatDoor
namespace Go.Proofs
open Go.Shelf
end Go.Proofs
namespace Go.Proofs.YtlpndgodkkndnaaGreatDoor
open Go.RowKit Go.SX
set_option maxRecDepth 100000
set_option maxHeartbeats 4000000
set_option linter.unusedVariables false
set_option linter.unusedSimpArgs false
theorem has_mem {l : List ByteArray} {s : ByteArray} : has l s = true ↔ s ∈ l := by
 unfold has
 rw [List.any_eq_true]
 constructor
 ·rintro ⟨x, hx, h⟩
  rw [← of_decide_eq_true h]; exact hx
 ·intro h; exact ⟨s, h, by simp⟩
theorem has_not {l : List ByteArray} {s : ByteArray} : has l s = false ↔ s ∉ l := by
 rw [← has_mem, Bool.not_eq_true]
abbrev Sb := ByteArray → Option ByteArray
def rnS (σ : Sb) (v : ByteArray) : ByteArray := (σ v).getD v
def up1 (σ : Sb) (v w : ByteArray) : Sb := fun x => if x = v then some w else σ x
theorem lookA_none {α : Type} {A : List (ByteArray × α)} {k : ByteArray} : lookA A k = none ↔ k ∉ A.map (·.1) := by
 induction A with
 | nil => simp [lookA]
 | cons p A ih =>
  obtain ⟨k', v⟩ := p
  rw [lookA, List.map_cons, List.mem_cons, not_or]
  by_cases e : k = k'
  ·subst e; simp
  ·rw [if_neg e, ih]; exact ⟨fun h => ⟨e, h⟩, fun h => h.2⟩
theorem lookA_some {α : Type} {A : List (ByteArray × α)} {k : ByteArray} {v : α} (hn : (A.map (·.1)).Nodup) : lookA A k = some v ↔ (k, v) ∈ A := by
 induction A with
 | nil => simp [lookA]
 | cons p A ih =>
  obtain ⟨k', w⟩ := p
  rw [List.map_cons, List.nodup_cons] at hn
  rw [lookA, List.mem_cons]
  by_cases e : k = k'
  ·subst e
   rw [if_pos rfl]
   constructor
   ·intro h; rw [Option.some.inj h]; exact .inl rfl
   ·rintro (h | h)
    ·rw [(Prod.mk.inj h).2]
    ·exact (hn.1 (List.mem_map.2 ⟨_, h, rfl⟩)).elim
  ·rw [if_neg e, ih hn.2]
   exact ⟨.inr, fun h => h.elim (fun h => (e (Prod.mk.inj h).1).elim) id⟩
theorem nodup_injA {α : Type} {l : List α} (h : l.Nodup) (i j : Nat) (hi : i < l.length) (hj : j < l.length) (e : l[i] = l[j]) : i = j := by
 rcases Nat.lt_trichotomy i j with h1 | h1 | h1
 ·exact absurd e (List.pairwise_iff_getElem.1 h i j hi hj h1)
 ·exact h1
 ·exact absurd e.symm (List.pairwise_iff_getElem.1 h j i hj hi h1)
def CopyOf {α : Type} (M A : List (ByteArray × α)) (idx : List Nat) : Prop := (A.map (·.1)).Nodup ∧ ∀ k v, (k, v) ∈ A ↔ ∃ j ∈ idx, M[j]? = some (k, v)
theorem CopyOf.step {α : Type} {M A : List (ByteArray × α)} {idx : List Nat} (hM : (M.map (·.1)).Nodup) (h : CopyOf M A idx) {j : Nat} {k : ByteArray} {v : α} (hj : j ∉ idx) (hk : M[j]? = some (k, v)) : CopyOf M (setA A k v) (idx ++ [j]) := by
 have hno : k ∉ A.map (·.1) := by
  intro hm
  obtain ⟨⟨k', v'⟩, hp, rfl⟩ := List.mem_map.1 hm
  obtain ⟨j', hj', hk'⟩ := (h.2 _ _).1 hp
  have h1 := (List.getElem?_eq_some_iff.1 hk).1
  have h2 := (List.getElem?_eq_some_iff.1 hk').1
  have : j = j' := nodup_injA hM j j' (by simpa using h1) (by simpa using h2) (by
   have e1 : (M.map (·.1))[j]? = some k' := by rw [List.getElem?_map, hk]; rfl
   have e2 : (M.map (·.1))[j']? = some k' := by rw [List.getElem?_map, hk']; rfl
   rw [List.getElem?_eq_getElem (by simpa using h1)] at e1
   rw [List.getElem?_eq_getElem (by simpa using h2)] at e2
   exact (Option.some.inj e1).trans (Option.some.inj e2).symm)
  exact hj (this ▸ hj')
 rw [setA_miss (lookA_none.2 hno)]
 refine ⟨?_, fun k' v' => ?_⟩
 ·rw [List.map_append, List.nodup_append]
  refine ⟨h.1, by simp, ?_⟩
  rintro a ha b hb rfl
  simp only [List.map_cons, List.map_nil, List.mem_singleton] at hb
  subst hb; exact hno ha
 ·rw [List.mem_append, h.2, List.mem_singleton]
  constructor
  ·rintro (⟨j', hj', e⟩ | e)
   ·exact ⟨j', List.mem_append_left _ hj', e⟩
   ·exact ⟨j, by simp, by rw [hk, e]⟩
  ·rintro ⟨j', hj', e⟩
   rcases List.mem_append.1 hj' with hj' | hj'
   ·exact .inl ⟨j', hj', e⟩
   ·rw [List.mem_singleton.1 hj', hk] at e
    exact .inr (Option.some.inj e).symm
theorem CopyOf.all {α : Type} {M A : List (ByteArray × α)} {idx : List Nat} (hM : (M.map (·.1)).Nodup) (h : CopyOf M A idx) (ha : ∀ j, j < M.length → j ∈ idx) (v : ByteArray) : lookA A v = lookA M v := by
 have key : ∀ w, lookA A v = some w ↔ lookA M v = some w := fun w => by
  rw [lookA_some h.1, lookA_some hM, h.2]
  constructor
  ·rintro ⟨j, _, e⟩; exact lG e
  ·intro hm
   obtain ⟨j, hj⟩ := List.getElem?_of_mem hm
   exact ⟨j, ha j (List.getElem?_eq_some_iff.1 hj).1, hj⟩
 cases h1 : lookA A v with
 | none =>
  cases h2 : lookA M v with
  | none => rfl
  | some w => rw [(key w).2 h2] at h1; cases h1
 | some w => rw [(key w).1 h1]
theorem tailD {P : Program} {f : FuncId} {args : List AV} {b b' : AH} {v : AV} (h : Tri P f args b (D v b')) (a : AH) : Tri P f args (a ++ b) (D v (a ++ b')) := by
 have := h.aroundD a []
 simpa using this
theorem permPre {P : Program} {f : FuncId} {args : List AV} {ah ah' : AH} {Φ : AEnd → AH → Prop} (h : Tri P f args ah Φ) (p : ah'.Perm ah) : Tri P f args ah' Φ :=
 ⟨h.1, fun Fr w vs hst hrel => (h.2 Fr w vs (hst.perm p) (RelVs.mv (Mv.same w fun b o hs => hs.elim .inl fun h' => .inr ((reg_perm p).2 h')) _ _ hrel)).mono fun e w' he => he.perm fun b o => reg_perm p.symm⟩
def plN (l : List ByteArray) (s : ByteArray) : Nat → Int
 | 0 => -1
 | i + 1 => if l[i]? = some s then (i : Int) else plN l s i
def plc (l : List ByteArray) (s : ByteArray) : Int := plN l s l.length
def lessB (s t : ByteArray) : Bool := Op.bytesLess s.toList t.toList
def risP : List ByteArray → ByteArray → List ByteArray
 | [], s => [s]
 | x :: l, s => if lessB x s = true then x :: risP l s else if x = s then x :: l else s :: x :: l
theorem risP_len : ∀ (l : List ByteArray) (s : ByteArray), (risP l s).length ≤ l.length + 1
 | [], s => by simp [risP]
 | x :: l, s => by
  have := risP_len l s
  rw [risP]; split
  ·simp; omega
  ·split <;> simp
theorem risP_mem : ∀ (l : List ByteArray) (s x : ByteArray), x ∈ risP l s ↔ x = s ∨ x ∈ l
 | [], s, x => by simp [risP]
 | y :: l, s, x => by
  have := risP_mem l s x
  rw [risP]; split
  ·simp only [List.mem_cons, this]; constructor
   ·rintro (h | h | h) <;> simp [h]
   ·rintro (h | h | h) <;> simp [h]
  ·split
   ·rename_i h; subst h; simp
   ·simp
theorem str_sz (l : List ByteArray) : ∀ x ∈ l.map AV.str, x.size = 1 := all_map fun _ => rfl
theorem ref_sorted (l : List ByteArray) (s : ByteArray) (hl : l.length ≤ 1000000) : Tri Tryz.prog 61 [strs l, .str s] [] (D (strs (risP l s)) []) := by
 refine Tri.enter 45 Tryz.func61 rfl rfl rfl rfl fun Fr w0 => ?_
 repeat' (first | refine AW.re 0 1 ?_ | refine AW.re 1 1 ?_ | refine AW.go ?_ | fail)
 refine AW.prune [0, 1, 5] (AW.loop (fun mz af h => ∃ (i : Nat), i ≤ l.length ∧ mz = l.length - i ∧ af = [(0, strs l), (1, .str s), (5, .int .i64 i)] ∧ h = [] ∧ risP l s = l.take i ++ risP (l.drop i) s) l.length ⟨0, Nat.zero_le _, rfl, rfl, rfl, rfl⟩ ?_)
 rintro mz af h ⟨i, hi, rfl, rfl, rfl, he⟩
 refine AW.seq ?_
 by_cases hlt : i < l.length
 ·obtain ⟨x, hx⟩ := get_lt hlt
  have hx' : (l.map AV.str)[((i : Nat) : Int).toNat]? = some (.str x) := map_get hx
  have htk : l.take (i + 1) = l.take i ++ [x] := by rw [List.take_add_one, hx]; rfl
  rw [drop_cons hx, risP] at he
  change risP l s = l.take i ++ if Op.bytesLess x.toList s.toList = true then x :: risP (l.drop (i + 1)) s else if x = s then x :: l.drop (i + 1) else s :: x :: l.drop (i + 1) at he
  cases hlb : Op.bytesLess x.toList s.toList with
  | true =>
   rw [hlb] at he
   repeat' (first | (refine xS 2 5 ?_; ((refine AL.gx (fun hb => ?_) (fun hb => ?_) <;> refine AL.es 2 ?_)) <;> (first | (refine AL.gd ?_; refine AL.d (iX hx') ?_) | refine AL.gs ?_) <;> refine AL.es 4 ?_ <;> refine AL.nil ?_) | (refine xS 3 1 ?_; refine AL.d AOp.ad ?_; refine xN 1 ?_) | refine AW.jf ?_ | refine AW.jj (fun hb => ?_) (fun hb => ?_) | refine AW.go ?_ | fail)
   all_goals try (exfalso; simp only [dT, dF, lM] at *; omega)
   all_goals try (rw [hlb] at hb; cases hb; done)
   refine AW.again_keep (l.length - (i + 1)) [0, 1, 5] (by omega) ⟨i + 1, hlt, rfl, rfl, rfl, ?_⟩
   rw [he, if_pos rfl, htk]; simp
  | false =>
   rw [hlb] at he
   repeat' (first | (refine xS 2 5 ?_; ((refine AL.gx (fun hb => ?_) (fun hb => ?_) <;> refine AL.es 2 ?_)) <;> (first | (refine AL.gd ?_; refine AL.d (iX hx') ?_) | refine AL.gs ?_) <;> refine AL.es 4 ?_ <;> refine AL.nil ?_) | (refine xS 4 5 ?_; ((refine AL.gx (fun hb => ?_) (fun hb => ?_) <;> refine AL.es 2 ?_)) <;> (first | (refine AL.gd ?_; refine AL.d (iX hx') ?_) | refine AL.gs ?_) <;> refine AL.es 4 ?_ <;> refine AL.nil ?_) | refine AW.re 5 2 ?_ | refine AW.jf ?_ | refine AW.jj (fun hb => ?_) (fun hb => ?_) | refine AW.go ?_ | fail)
   all_goals try (exfalso; simp only [dT, dF, lM] at *; omega)
   all_goals try (rw [hlb] at hb; cases hb; done)
   ·rw [toList_beq, dT] at hb
    rw [if_neg (by simp), if_pos hb, ← drop_cons hx, List.take_append_drop] at he
    exact AW.retv rfl ⟨by rw [he], rfl⟩
   ·rw [toList_beq, dF] at hb
    rw [if_neg (by simp), if_neg hb] at he
    repeat' (first | (refine AW.ex 6 [] [0, 4, 7, 11, 12] ?_; refine AQE.hl ?_; refine AQE.e ?_; refine AQE.e ?_; ((refine AQE.p rfl (AOp.cut (sz := 1) rfl rfl (by kernel_rfl) (str_sz _) bndIs.none (bndIs.some (n := i) rfl (by omega)) (by omega) (by simp; omega)) ?_)) <;> refine AQE.hl ?_ <;> refine AQE.e ?_ <;> refine AQE.p rfl (AOp.lit (e := 9) (sz := 1) (by kernel_rfl) rfl rfl rfl (P_one rfl) (by decide)) ?_ <;> refine AQE.hl ?_ <;> refine AQE.e ?_ <;> refine AQE.e ?_ <;> ((refine AQE.p rfl (AOp.cut (sz := 1) rfl rfl (by kernel_rfl) (str_sz _) (bndIs.some (n := i) rfl (by omega)) bndIs.none (by simp; omega) (by omega)) ?_)) <;> refine AQE.hl ?_ <;> refine AQE.hl ?_ <;> refine AQE.nil ?_ <;> refine AX.o (n := 4) 0 ?_ <;> (refine AXO.lit_own (e := 9) (sz := 1) (by kernel_rfl) rfl rfl rfl P_nil (by decide) fun b0 => ?_) <;> try dsimp only [sA, sB, sC, sD] <;> refine AX.o (n := 3) 4 ?_ <;> refine AXO.append (i := 0) (e := 9) (sz := 1) (bytes := 16) rfl rfl rfl rfl (by kernel_rfl) (by kernel_rfl) (by repeat' (exact P_nil)) (by repeat' (first | refine P_take ?_ | exact P_map fun _ => rfl)) (ok_all (by repeat' (first | refine P_take ?_ | exact P_map fun _ => rfl))) (by (try simp only [lA, lM, List.length_take, List.length_drop, List.length_cons, List.length_nil, List.length_replicate]); omega) (by (try simp only [lA, lM, List.length_take, List.length_drop, List.length_cons, List.length_nil, List.length_replicate]); omega) rfl fun b' c' => ?_ <;> try dsimp only [sA, sB, sC, sD] <;> refine AX.o (n := 2) 7 ?_ <;> refine AXO.append (i := 0) (e := 9) (sz := 1) (bytes := 16) rfl rfl rfl rfl (by kernel_rfl) (by kernel_rfl) (by repeat' (first | exact P_nil | refine P_app ?_ ?_ | refine P_take ?_ | exact P_map fun _ => rfl)) (by repeat' (exact P_one rfl)) (ok_all (by repeat' (exact P_one rfl))) (by (try simp only [lA, lM, List.length_take, List.length_drop, List.length_cons, List.length_nil, List.length_replicate]); omega) (by (try simp only [lA, lM, List.length_take, List.length_drop, List.length_cons, List.length_nil, List.length_replicate]); omega) rfl fun b' c' => ?_ <;> try dsimp only [sA, sB, sC, sD] <;> refine AX.o (n := 1) 11 ?_ <;> refine AXO.append (i := 0) (e := 9) (sz := 1) (bytes := 16) rfl rfl rfl rfl (by kernel_rfl) (by kernel_rfl) (by repeat' (first | exact P_nil | refine P_app ?_ ?_ | refine P_take ?_ | exact P_map fun _ => rfl | exact P_one rfl)) (by repeat' (first | refine P_take ?_ | refine P_drop ?_ | exact P_map fun _ => rfl)) (ok_all (by repeat' (first | refine P_take ?_ | refine P_drop ?_ | exact P_map fun _ => rfl))) (by (try simp only [lA, lM, List.length_take, List.length_drop, List.length_cons, List.length_nil, List.length_replicate]); omega) (by (try simp only [lA, lM, List.length_take, List.length_drop, List.length_cons, List.length_nil, List.length_replicate]); omega) rfl fun b' c' => ?_ <;> try dsimp only [sA, sB, sC, sD] <;> refine AX.o (n := 0) 12 ?_ <;> refine AXO.e ?_ <;> try dsimp only [sA, sB, sC, sD] <;> refine AX.done_keep [0, 1, 4, 5, 6, 7, 8, 9, 10, 11, 12, 13, 14, 15, 16, 17, 18, 19, 20, 21, 22, 23, 24, 25, 26, 27, 28, 29, 30, 31, 32] ?_) | fail)
    refine AW.as_sl 4 rfl ?_
    refine AW.ret_drop rfl (List.nil_sublist _) ⟨?_, rfl⟩
    rw [he]
    show AEnd.ret (AV.sl _) = AEnd.ret (AV.sl _)
    congr 2
    rw [← drop_cons hx, List.take_of_length_le (show (l.map AV.str).length ≤ (l.map AV.str).length from Nat.le_refl _)]
    simp [List.map_take, List.map_drop]
 ·rw [List.drop_eq_nil_of_le (by omega), risP] at he
  repeat' (first | (refine xS 2 5 ?_; ((refine AL.gx (fun hb => ?_) (fun hb => ?_) <;> refine AL.es 2 ?_)) <;> (first | (refine AL.gd ?_; (exfalso; simp only [dT, dF, lM, bne_iff_ne, ne_eq, bne_eq_false_iff_eq, beq_iff_eq, beq_eq_false_iff_ne] at *; omega)) | refine AL.gs ?_) <;> refine AL.es 4 ?_ <;> refine AL.nil ?_) | (refine xS 4 5 ?_; ((refine AL.gx (fun hb => ?_) (fun hb => ?_) <;> refine AL.es 2 ?_)) <;> (first | (refine AL.gd ?_; (exfalso; simp only [dT, dF, lM, bne_iff_ne, ne_eq, bne_eq_false_iff_eq, beq_iff_eq, beq_eq_false_iff_ne] at *; omega)) | refine AL.gs ?_) <;> refine AL.es 4 ?_ <;> refine AL.nil ?_) | refine AW.jf ?_ | refine AW.go ?_ | fail)
  all_goals try (exfalso; simp only [dT, dF, lM] at *; omega)
  repeat' (first | (refine AW.ex 6 [] [0, 4, 7, 11, 12] ?_; refine AQE.hl ?_; refine AQE.e ?_; refine AQE.e ?_; ((refine AQE.p rfl (AOp.cut (sz := 1) rfl rfl (by kernel_rfl) (str_sz _) bndIs.none (bndIs.some (n := i) rfl (by omega)) (by omega) (by simp; omega)) ?_)) <;> refine AQE.hl ?_ <;> refine AQE.e ?_ <;> refine AQE.p rfl (AOp.lit (e := 9) (sz := 1) (by kernel_rfl) rfl rfl rfl (P_one rfl) (by decide)) ?_ <;> refine AQE.hl ?_ <;> refine AQE.e ?_ <;> refine AQE.e ?_ <;> ((refine AQE.p rfl (AOp.cut (sz := 1) rfl rfl (by kernel_rfl) (str_sz _) (bndIs.some (n := i) rfl (by omega)) bndIs.none (by simp; omega) (by omega)) ?_)) <;> refine AQE.hl ?_ <;> refine AQE.hl ?_ <;> refine AQE.nil ?_ <;> refine AX.o (n := 4) 0 ?_ <;> (refine AXO.lit_own (e := 9) (sz := 1) (by kernel_rfl) rfl rfl rfl P_nil (by decide) fun b0 => ?_) <;> try dsimp only [sA, sB, sC, sD] <;> refine AX.o (n := 3) 4 ?_ <;> refine AXO.append (i := 0) (e := 9) (sz := 1) (bytes := 16) rfl rfl rfl rfl (by kernel_rfl) (by kernel_rfl) (by repeat' (exact P_nil)) (by repeat' (first | refine P_take ?_ | exact P_map fun _ => rfl)) (ok_all (by repeat' (first | refine P_take ?_ | exact P_map fun _ => rfl))) (by (try simp only [lA, lM, List.length_take, List.length_drop, List.length_cons, List.length_nil, List.length_replicate]); omega) (by (try simp only [lA, lM, List.length_take, List.length_drop, List.length_cons, List.length_nil, List.length_replicate]); omega) rfl fun b' c' => ?_ <;> try dsimp only [sA, sB, sC, sD] <;> refine AX.o (n := 2) 7 ?_ <;> refine AXO.append (i := 0) (e := 9) (sz := 1) (bytes := 16) rfl rfl rfl rfl (by kernel_rfl) (by kernel_rfl) (by repeat' (first | exact P_nil | refine P_app ?_ ?_ | refine P_take ?_ | exact P_map fun _ => rfl)) (by repeat' (exact P_one rfl)) (ok_all (by repeat' (exact P_one rfl))) (by (try simp only [lA, lM, List.length_take, List.length_drop, List.length_cons, List.length_nil, List.length_replicate]); omega) (by (try simp only [lA, lM, List.length_take, List.length_drop, List.length_cons, List.length_nil, List.length_replicate]); omega) rfl fun b' c' => ?_ <;> try dsimp only [sA, sB, sC, sD] <;> refine AX.o (n := 1) 11 ?_ <;> refine AXO.append (i := 0) (e := 9) (sz := 1) (bytes := 16) rfl rfl rfl rfl (by kernel_rfl) (by kernel_rfl) (by repeat' (first | exact P_nil | refine P_app ?_ ?_ | refine P_take ?_ | exact P_map fun _ => rfl | exact P_one rfl)) (by repeat' (first | refine P_take ?_ | refine P_drop ?_ | exact P_map fun _ => rfl)) (ok_all (by repeat' (first | refine P_take ?_ | refine P_drop ?_ | exact P_map fun _ => rfl))) (by (try simp only [lA, lM, List.length_take, List.length_drop, List.length_cons, List.length_nil, List.length_replicate]); omega) (by (try simp only [lA, lM, List.length_take, List.length_drop, List.length_cons, List.length_nil, List.length_replicate]); omega) rfl fun b' c' => ?_ <;> try dsimp only [sA, sB, sC, sD] <;> refine AX.o (n := 0) 12 ?_ <;> refine AXO.e ?_ <;> try dsimp only [sA, sB, sC, sD] <;> refine AX.done_keep [0, 1, 4, 5, 6, 7, 8, 9, 10, 11, 12, 13, 14, 15, 16, 17, 18, 19, 20, 21, 22, 23, 24, 25, 26, 27, 28, 29, 30, 31, 32] ?_) | fail)
  refine AW.as_sl 4 rfl ?_
  refine AW.ret_drop rfl (List.nil_sublist _) ⟨?_, rfl⟩
  rw [he]
  show AEnd.ret (AV.sl _) = AEnd.ret (AV.sl _)
  congr 2
  have : i = l.length := by omega
  subst this
  simp [List.take_of_length_le]
mutual
def frF : GFml → List ByteArray
 | ⟨_, _, _, vars, args, kids⟩ => frA args (frLs vars kids [])
def frLs : List ByteArray → List GFml → List ByteArray → List ByteArray
 | _, [], out => out
 | vars, x :: l, out => frLs vars l (frV vars (frF x) out)
def frV : List ByteArray → List ByteArray → List ByteArray → List ByteArray
 | _, [], out => out
 | vars, v :: l, out => frV vars l (bif has vars v then out else risP out v)
def frA : List ByteArray → List ByteArray → List ByteArray
 | [], out => out
 | v :: l, out => frA l (risP out v)
end
mutual
def agF : GFml → List ByteArray
 | ⟨_, _, _, _, args, kids⟩ => args ++ agL kids
def agL : List GFml → List ByteArray
 | [] => []
 | x :: l => agF x ++ agL l
end
theorem frV_len (vars : List ByteArray) : ∀ l out : List ByteArray, (frV vars l out).length ≤ out.length + l.length
 | [], out => by rw [frV]; simp
 | v :: l, out => by
  have h1 := frV_len vars l (bif has vars v then out else risP out v)
  have h2 := risP_len out v
  rw [frV, List.length_cons]
  cases hv : has vars v with
  | true => rw [hv] at h1; simp only [cond_true] at h1 ⊢; omega
  | false => rw [hv] at h1; simp only [cond_false] at h1 ⊢; omega
theorem frA_len : ∀ l out : List ByteArray, (frA l out).length ≤ out.length + l.length
 | [], out => by rw [frA]; simp
 | v :: l, out => by
  have h1 := frA_len l (risP out v)
  have h2 := risP_len out v
  rw [frA, List.length_cons]; omega
mutual
theorem frF_len : ∀ f : GFml, (frF f).length ≤ (agF f).length
 | ⟨k, ar, nm, vars, args, kids⟩ => by
  have h1 := frLs_len vars kids []
  have h2 := frA_len args (frLs vars kids [])
  rw [frF, agF, lA]
  rw [List.length_nil] at h1; omega
theorem frLs_len (vars : List ByteArray) : ∀ (l : List GFml) (out : List ByteArray), (frLs vars l out).length ≤ out.length + (agL l).length
 | [], out => by rw [frLs]; omega
 | x :: l, out => by
  have h0 := frF_len x
  have h1 := frV_len vars (frF x) out
  have h2 := frLs_len vars l (frV vars (frF x) out)
  rw [frLs, agL, lA]; omega
end
theorem agL_app : ∀ a b : List GFml, agL (a ++ b) = agL a ++ agL b
 | [], b => by rw [List.nil_append, agL]; rfl
 | x :: a, b => by rw [List.cons_append, agL, agL, agL_app a b, List.append_assoc]
theorem ref_Free : ∀ (N : Nat) (f : GFml), ndF f ≤ N → f.Ok → (agF f).length ≤ 1000000 → Tri Tryz.prog 21 [f.st] [] (D (strs (frF f)) []) := by
 intro N
 induction N using Nat.strongRecOn with
 | _ N ih =>
  intro f hN ho hlen
  have hnd := ndF_eq f
  obtain ⟨⟨_, _, _, q4, q5⟩, q6, q7⟩ := ho
  have l4 := q4.1
  have l5 := q5.1
  obtain ⟨k, ar, nm, vars, args, kids⟩ := f
  rw [agF, lA] at hlen
  rw [frF]
  simp only at *
  refine Tri.enter 56 Tryz.func21 rfl rfl rfl rfl fun Fr w0 => ?_
  repeat' (first | (refine AW.r 0 ?_; (refine AL.d (AOp.box_ro (v := .st [.int .i64 k, .int .i64 ar, .str nm, strs vars, strs args, .sl (kids.map GFml.av)]) rfl rfl) ?_) <;> refine AL.es 1 ?_ <;> refine AL.nil ?_) | refine AW.re 1 1 ?_ | refine AW.re 2 1 ?_ | refine AW.go ?_ | fail)
  refine AW.prune [1, 3, 4] (AW.loop (fun mz af h => ∃ (i : Nat) (o : List ByteArray), i ≤ kids.length ∧ mz = kids.length - i ∧ af = [(1, .at (.st [.int .i64 k, .int .i64 ar, .str nm, strs vars, strs args, .sl (kids.map GFml.av)])), (3, strs o), (4, .int .i64 i)] ∧ h = [] ∧ (frLs vars kids [] = frLs vars (kids.drop i) o ∧ o.length ≤ (agL (kids.take i)).length)) kids.length ⟨0, [], Nat.zero_le _, rfl, rfl, rfl, ⟨rfl, by simp⟩⟩ ?_)
  rintro mz af h ⟨i, o, hi, rfl, rfl, rfl, he⟩
  refine AW.seq ?_
  by_cases hlt : i < kids.length
  ·obtain ⟨he, hol⟩ := he
   obtain ⟨x, hx⟩ := get_lt hlt
   have hx' : (kids.map GFml.av)[((i : Nat) : Int).toNat]? = some (x.st) := GFml.get hx
   have hxm := lG hx
   have hnx := ndFs_mem hxm
   have htk : agL (kids.take (i + 1)) = agL (kids.take i) ++ agF x := by rw [List.take_add_one, hx, agL_app]; simp [agL]
   have hle : (agL kids).length = (agL (kids.take (i + 1))).length + (agL (kids.drop (i + 1))).length := by rw [← lA, ← agL_app, List.take_append_drop]
   rw [htk, lA] at hle
   have hfl := frF_len x
   have hc := ih (ndF x) (by omega) x (Nat.le_refl _) (q7 x hxm) (by omega)
   rw [drop_cons hx, frLs] at he
   generalize frF x = fx at *
   repeat' (first | refine AW.re 3 5 ?_ | refine AW.jj (fun hb => ?_) (fun hb => ?_) | refine AW.go ?_ | fail)
   all_goals try (exfalso; simp only [dT, dF, lM] at *; omega)
   repeat' (first | (refine xS 5 3 ?_; refine AL.d (iX hx') ?_; refine AL.es 1 ?_; refine AL.d (AOp.call rfl rfl hc) ?_; refine xN 1 ?_) | refine AW.re 6 1 ?_ | refine AW.go ?_ | fail)
   obtain ⟨I0, hI0⟩ : ∃ j : Nat, j = i := ⟨i, rfl⟩
   subst hI0
   have hlt0 := hlt
   have he0 := he
   refine AW.prune [1, 3, 4, 5, 6] (AW.loop (fun mz af h => ∃ (i : Nat) (o2 : List ByteArray), i ≤ fx.length ∧ mz = fx.length - i ∧ af = [(1, .at (.st [.int .i64 k, .int .i64 ar, .str nm, strs vars, strs args, .sl (kids.map GFml.av)])), (3, strs o2), (4, .int .i64 I0), (5, strs fx), (6, .int .i64 i)] ∧ h = [] ∧ (frV vars fx o = frV vars (fx.drop i) o2 ∧ o2.length ≤ o.length + i)) fx.length ⟨0, o, Nat.zero_le _, rfl, rfl, rfl, ⟨rfl, by omega⟩⟩ ?_)
   rintro mz af h ⟨i, o2, hi, rfl, rfl, rfl, he⟩
   refine AW.seq ?_
   by_cases hlt : i < fx.length
   ·obtain ⟨he, hol2⟩ := he
    obtain ⟨v, hv⟩ := get_lt hlt
    have hv' : (fx.map AV.str)[((i : Nat) : Int).toNat]? = some (.str v) := map_get hv
    have hM := Among_has vars (by omega) v
    have hS := ref_sorted o2 v (by omega)
    have hsl := risP_len o2 v
    rw [drop_cons hv, frV] at he
    generalize risP o2 v = o3 at *
    cases hh : has vars v with
    | true =>
     rw [hh] at hM he
     repeat' (first | refine AW.re 7 4 ?_ | (refine AW.dq 9 ?_; refine AQ.es 4 ?_; refine AQ.p rfl (iX hv') ?_; refine AQ.es 1 ?_; refine AQ.p rfl (AOp.call rfl rfl hM) ?_; refine AQ.es 1 ?_; refine AQ.nil ?_) | (refine xS 8 1 ?_; refine AL.d AOp.ad ?_; refine xN 1 ?_) | refine AW.jf ?_ | refine AW.jj (fun hb => ?_) (fun hb => ?_) | refine AW.go ?_ | fail)
     all_goals try (exfalso; simp only [dT, dF, lM] at *; omega)
     refine AW.again_keep (fx.length - (i + 1)) [1, 3, 4, 5, 6] (by omega) ⟨i + 1, o2, hlt, rfl, rfl, rfl, ?_⟩
     exact ⟨he, by omega⟩
    | false =>
     rw [hh] at hM he
     repeat' (first | refine AW.re 7 4 ?_ | (refine AW.dq 9 ?_; refine AQ.es 4 ?_; refine AQ.p rfl (iX hv') ?_; refine AQ.es 1 ?_; refine AQ.p rfl (AOp.call rfl rfl hM) ?_; refine AQ.es 1 ?_; refine AQ.nil ?_) | (refine xS 10 3 ?_; refine AL.d (iX hv') ?_; refine AL.es 1 ?_; refine AL.d (AOp.call rfl rfl hS) ?_; refine xN 1 ?_) | (refine xS 8 1 ?_; refine AL.d AOp.ad ?_; refine xN 1 ?_) | refine AW.jt ?_ | refine AW.jj (fun hb => ?_) (fun hb => ?_) | refine AW.go ?_ | fail)
     all_goals try (exfalso; simp only [dT, dF, lM] at *; omega)
     refine AW.again_keep (fx.length - (i + 1)) [1, 3, 4, 5, 6] (by omega) ⟨i + 1, o3, hlt, rfl, rfl, rfl, ?_⟩
     exact ⟨he, by omega⟩
   ·obtain ⟨he, hol2⟩ := he
    rw [List.drop_eq_nil_of_le (by omega), frV] at he
    rw [he] at he0
    repeat' (first | refine AW.re 7 4 ?_ | refine AW.jj (fun hb => ?_) (fun hb => ?_) | refine AW.go ?_ | fail)
    all_goals try (exfalso; simp only [dT, dF, lM] at *; omega)
    repeat' (first | (refine xS 4 1 ?_; refine AL.d AOp.ad ?_; refine xN 1 ?_) | fail)
    exact AW.again_keep (kids.length - (I0 + 1)) [1, 3, 4] (by omega) ⟨I0 + 1, o2, hlt0, rfl, rfl, rfl, he0, by rw [htk, lA]; omega⟩
  ·obtain ⟨he, hol⟩ := he
   have hal : (agL (kids.take i)).length ≤ (agL kids).length := by
    have hle : (agL kids).length = (agL (kids.take i)).length + (agL (kids.drop i)).length := by rw [← lA, ← agL_app, List.take_append_drop]
    omega
   rw [List.drop_eq_nil_of_le (by omega), frLs] at he
   rw [he]
   repeat' (first | refine AW.re 3 5 ?_ | refine AW.re 11 1 ?_ | refine AW.jj (fun hb => ?_) (fun hb => ?_) | refine AW.go ?_ | fail)
   all_goals try (exfalso; simp only [dT, dF, lM] at *; omega)
   have hob : o.length ≤ (agL kids).length := by omega
   clear he hol hal hlt hi
   refine AW.prune [1, 3, 7] (AW.loop (fun mz af h => ∃ (i : Nat) (o2 : List ByteArray), i ≤ args.length ∧ mz = args.length - i ∧ af = [(1, .at (.st [.int .i64 k, .int .i64 ar, .str nm, strs vars, strs args, .sl (kids.map GFml.av)])), (3, strs o2), (7, .int .i64 i)] ∧ h = [] ∧ (frA args o = frA (args.drop i) o2 ∧ o2.length ≤ o.length + i)) args.length ⟨0, o, Nat.zero_le _, rfl, rfl, rfl, ⟨rfl, by omega⟩⟩ ?_)
   rintro mz af h ⟨i, o2, hi, rfl, rfl, rfl, he⟩
   refine AW.seq ?_
   by_cases hlt : i < args.length
   ·obtain ⟨he, hol2⟩ := he
    obtain ⟨v, hv⟩ := get_lt hlt
    have hv' : (args.map AV.str)[((i : Nat) : Int).toNat]? = some (.str v) := map_get hv
    have hS := ref_sorted o2 v (by omega)
    have hsl := risP_len o2 v
    rw [drop_cons hv, frA] at he
    generalize risP o2 v = o3 at *
    repeat' (first | refine AW.re 12 5 ?_ | (refine xS 14 4 ?_; refine AL.d (iX hv') ?_; refine AL.es 1 ?_; refine AL.d (AOp.call rfl rfl hS) ?_; refine xN 1 ?_) | (refine xS 13 1 ?_; refine AL.d AOp.ad ?_; refine xN 1 ?_) | refine AW.jj (fun hb => ?_) (fun hb => ?_) | refine AW.go ?_ | fail)
    all_goals try (exfalso; simp only [dT, dF, lM] at *; omega)
    refine AW.again_keep (args.length - (i + 1)) [1, 3, 7] (by omega) ⟨i + 1, o3, hlt, rfl, rfl, rfl, ?_⟩
    exact ⟨he, by omega⟩
   ·obtain ⟨he, hol2⟩ := he
    rw [List.drop_eq_nil_of_le (by omega), frA] at he
    rw [he]
    repeat' (first | refine AW.re 12 5 ?_ | refine AW.re 15 2 ?_ | refine AW.jj (fun hb => ?_) (fun hb => ?_) | refine AW.go ?_ | fail)
    all_goals try (exfalso; simp only [dT, dF, lM] at *; omega)
    exact AW.retv rfl ⟨rfl, rfl⟩
theorem plN_app (l r : List ByteArray) (s : ByteArray) : ∀ i, i ≤ l.length → plN (l ++ r) s i = plN l s i
 | 0, _ => rfl
 | i + 1, h => by rw [plN, plN, plN_app l r s i (by omega), List.getElem?_append_left (by omega)]
theorem plc_snoc (l : List ByteArray) (x s : ByteArray) : plc (l ++ [x]) s = if s = x then (l.length : Int) else plc l s := by
 rw [plc, lA, List.length_singleton, plN, plN_app l [x] s l.length (Nat.le_refl _)]
 have e : (l ++ [x])[l.length]? = some x := by simp
 rw [e]
 by_cases h : s = x
 ·rw [if_pos h, if_pos (by rw [h])]
 ·rw [if_neg h, if_neg (by intro e; exact h (Option.some.inj e).symm)]; rfl
def JJ (tk0 xs ys : List ByteArray) (σ : Sb) (tk : List ByteArray) : Prop := xs.length = ys.length ∧ ∀ v ∈ tk0, rnS σ v ∈ tk ∧ plc xs v = plc ys (rnS σ v) ∧ (plc xs v < 0 → rnS σ v = v)
theorem JJ.mono {tk0 xs ys tk tk' : List ByteArray} {σ : Sb} (h : JJ tk0 xs ys σ tk) (k : ∀ x ∈ tk, x ∈ tk') : JJ tk0 xs ys σ tk' := ⟨h.1, fun v hv => ⟨k _ (h.2 v hv).1, (h.2 v hv).2⟩⟩
theorem JJ.step {tk0 xs ys tk : List ByteArray} {σ : Sb} {v w : ByteArray} (h : JJ tk0 xs ys σ tk) (hw : w ∉ tk) : JJ tk0 (xs ++ [v]) (ys ++ [w]) (up1 σ v w) (tk ++ [w]) := by
 refine ⟨by simp [h.1], fun u hu => ?_⟩
 by_cases e : u = v
 ·have e1 : rnS (up1 σ v w) u = w := by rw [rnS, up1, if_pos e]; rfl
  rw [e1, plc_snoc, plc_snoc, if_pos e, if_pos rfl, h.1]
  exact ⟨by simp, rfl, fun h => by omega⟩
 ·have e1 : rnS (up1 σ v w) u = rnS σ u := by rw [rnS, rnS, up1, if_neg e]
  obtain ⟨h1, h2, h3⟩ := h.2 u hu
  have hne : ¬ rnS σ u = w := fun e => hw (e ▸ h1)
  rw [e1, plc_snoc, plc_snoc, if_neg e, if_neg hne]
  exact ⟨by simp [h1], h2, h3⟩
mutual
theorem agF_len : ∀ f : GFml, shsF f = true → (agF f).length ≤ 24 * ndF f
 | ⟨k, ar, nm, vars, args, kids⟩, h => by
  rw [shsF, bA] at h
  have h1 := shaped_args h.2
  have h2 := agL_len kids h.1
  simp only at h1
  rw [agF, ndF, lA]; omega
theorem agL_len : ∀ l : List GFml, shsFs l = true → (agL l).length ≤ 24 * ndFs l
 | [], h => by rw [agL]; exact Nat.zero_le _
 | x :: l, h => by
  rw [shsFs, bA] at h
  have h1 := agF_len x h.1
  have h2 := agL_len l h.2
  rw [agL, ndFs, lA]; omega
end
def tup (n : Nat) : Nat → Nat → List Int
 | 0, _ => []
 | m + 1, i => tup n m (i / n) ++ [((i % n : Nat) : Int)]
theorem tup_len (n : Nat) : ∀ m i, (tup n m i).length = m
 | 0, _ => rfl
 | m + 1, i => by rw [tup, lA, tup_len n m]; rfl
theorem tup_mem {n : Nat} (hn : 0 < n) : ∀ (m i : Nat) (x : Int), x ∈ tup n m i → 0 ≤ x ∧ x < n
 | 0, _, x, h => by cases h
 | m + 1, i, x, h => by
  rw [tup, List.mem_append] at h
  rcases h with h | h
  ·exact tup_mem hn m _ x h
  ·rw [List.mem_singleton.1 h]
   have := Nat.mod_lt i hn
   omega
def rankI (n : Int) : List Int → Int → Int
 | [], r => r
 | x :: t, r => rankI n t (r * n + x)
theorem tup_app (n : Nat) (hn : 0 < n) (a : Nat) : ∀ (b x y : Nat), y < n ^ b → tup n (a + b) (x * n ^ b + y) = tup n a x ++ tup n b y
 | 0, x, y, h => by
  have : y = 0 := by simpa using h
  subst this
  simp [tup]
 | b + 1, x, y, h => by
  have e : x * n ^ (b + 1) + y = x * n ^ b * n + y := by rw [Nat.pow_succ, Nat.mul_assoc]
  rw [Nat.pow_succ] at h
  have hy : y / n < n ^ b := Nat.div_lt_of_lt_mul (by rw [Nat.mul_comm]; exact h)
  rw [← Nat.add_assoc, tup, tup, e, Nat.add_comm (x * n ^ b * n) y, Nat.add_mul_div_right _ _ hn, Nat.add_mul_mod_self_right, Nat.add_comm (y / n), tup_app n hn a b x (y / n) hy, List.append_assoc]
def nxR (n : Int) : List Int → List Int × Bool
 | [] => ([], false)
 | d :: r => if d + 1 < n then ((d + 1) :: r, true) else (0 :: (nxR n r).1, (nxR n r).2)
theorem nxR_tup {n : Nat} (hn : 0 < n) : ∀ (m i : Nat), i < n ^ m → nxR n (tup n m i).reverse = ((tup n m ((i + 1) % n ^ m)).reverse, decide (i + 1 < n ^ m))
 | 0, i, h => by
  have : i = 0 := by simpa using h
  subst this; rfl
 | m + 1, i, h => by
  rw [Nat.pow_succ] at h ⊢
  have hd := Nat.div_lt_of_lt_mul (by rw [Nat.mul_comm]; exact h : i < n * n ^ m)
  have hm := Nat.mod_lt i hn
  have he := Nat.div_add_mod i n
  rw [tup, tup, List.reverse_append, List.reverse_append]
  simp only [List.reverse_cons, List.reverse_nil, List.nil_append, List.singleton_append]
  rw [nxR]
  by_cases hc : i % n + 1 < n
  ·rw [if_pos (by omega)]
   have h1 : i + 1 < n ^ m * n := by
    have : (i / n + 1) * n ≤ n ^ m * n := Nat.mul_le_mul_right n hd
    rw [Nat.add_mul, Nat.one_mul, Nat.mul_comm] at this
    omega
   have h2 : (i + 1) / n = i / n := by
    rw [← he, Nat.add_assoc, Nat.mul_add_div hn, Nat.mul_add_div hn, Nat.div_eq_of_lt hc, Nat.div_eq_of_lt hm]
   have h3 : (i + 1) % n = i % n + 1 := by
    rw [← he, Nat.add_assoc, Nat.mul_add_mod, Nat.mul_add_mod, Nat.mod_eq_of_lt hc, Nat.mod_eq_of_lt hm]
   rw [Nat.mod_eq_of_lt h1, h2, h3, decide_eq_true h1]
   rfl
  ·rw [if_neg (by omega), nxR_tup hn m (i / n) hd]
   have hi : i + 1 = (i / n + 1) * n := by rw [Nat.add_mul, Nat.one_mul, Nat.mul_comm]; omega
   have h1 : (i + 1) % (n ^ m * n) = ((i / n + 1) % n ^ m) * n := by rw [hi, Nat.mul_mod_mul_right]
   rw [h1, Nat.mul_div_cancel _ hn, Nat.mul_mod_left]
   have h2 : decide (i + 1 < n ^ m * n) = decide (i / n + 1 < n ^ m) := by
    rw [hi]; exact decide_eq_decide.2 (Nat.mul_lt_mul_right hn)
   rw [h2]; rfl
def incB : List Bool → List Bool × Bool
 | [] => ([], false)
 | true :: r => (false :: (incB r).1, (incB r).2)
 | false :: r => (true :: r, true)
def bitV : List Bool → Nat
 | [] => 0
 | b :: r => b.toNat + 2 * bitV r
theorem incB_len : ∀ l, (incB l).1.length = l.length
 | [] => rfl
 | true :: r => by simp [incB, incB_len r]
 | false :: r => by simp [incB]
theorem bitV_lt : ∀ l, bitV l < 2 ^ l.length
 | [] => by simp [bitV]
 | b :: r => by
  have := bitV_lt r
  have hb : b.toNat ≤ 1 := Bool.toNat_le b
  rw [bitV, List.length_cons, Nat.pow_succ]; omega
theorem incB_val : ∀ l, (incB l).2 = true → bitV (incB l).1 = bitV l + 1
 | [], h => by cases h
 | true :: r, h => by
  simp only [incB] at h ⊢
  have := incB_val r h
  simp only [bitV, Bool.toNat_false, Bool.toNat_true]; omega
 | false :: r, h => by simp only [incB, bitV, Bool.toNat_false, Bool.toNat_true]; omega
def lkT {α : Type} : List (ByteArray × α) → ByteArray → Option α
 | [], _ => none
 | p :: r, s => match lkT r s with
  | some b => some b
  | none => if p.1 = s then some p.2 else none
theorem lkT_app {α : Type} (s : ByteArray) : ∀ a b : List (ByteArray × α), lkT (a ++ b) s = match lkT b s with | some x => some x | none => lkT a s
 | [], b => by rw [List.nil_append]; cases lkT b s <;> rfl
 | p :: a, b => by
  rw [List.cons_append, lkT, lkT, lkT_app s a b]
  cases lkT b s <;> rfl
theorem lkT_snoc {α : Type} (a : List (ByteArray × α)) (p : ByteArray × α) (s : ByteArray) : lkT (a ++ [p]) s = if p.1 = s then some p.2 else lkT a s := by
 rw [lkT_app, lkT, lkT]
 by_cases h : p.1 = s <;> simp [h]
abbrev TT := List (ByteArray × List Bool)
abbrev VV := List (ByteArray × Int)
def val (V : VV) (s : ByteArray) : Int := (lkT V s).getD 0
theorem val_snoc (V : VV) (v : ByteArray) (x : Int) (s : ByteArray) : val (V ++ [(v, x)]) s = if v = s then x else val V s := by
 rw [val, lkT_snoc]
 by_cases h : v = s
 ·rw [if_pos h, if_pos h]; rfl
 ·rw [if_neg h, if_neg h]; rfl
def falses (m : Nat) : List Bool := List.replicate m false
def lfpR (S : List Bool → List Bool) : Nat → List Bool → List Bool
 | 0, X => X
 | k + 1, X => if S X = X then X else lfpR S k (S X)
def pfpR (S : List Bool → List Bool) : Nat → List (List Bool) → List Bool → Option (List Bool)
 | 0, _, _ => none
 | k + 1, seen, X => if S X = X then some X else if (seen ++ [X]).contains (S X) = true then none else if 5000 < (seen ++ [X]).length then none else pfpR S k (seen ++ [X]) (S X)
def cloR (R : Nat → Nat → Bool) (L a : Nat) : Nat → Nat → Bool
 | 0, y => y == a
 | k + 1, y => cloR R L a k y || (List.range L).any fun x => cloR R L a k x && R x y
def gsR (P : List Bool → Bool) : Nat → List Bool → Bool
 | 0, t => P t
 | k + 1, t => P t || ((incB t).2 && gsR P k (incB t).1)
mutual
def sem (n M : Nat) : GFml → TT → VV → Bool
 | ⟨k, ar, nm, vars, args, kids⟩, T, V =>
  if k = 0 then (match lkT T nm with | none => false | some bits => bits.getD (rankI n (args.map (val V)) 0).toNat false)
  else if k = 1 then val V (args.getD 0 empB) == val V (args.getD 1 empB)
  else if k = 2 then decide (val V (args.getD 0 empB) < val V (args.getD 1 empB))
  else if k = 3 then !semH n M kids T V
  else if k = 4 then semA n M kids T V
  else if k = 5 then semO n M kids T V
  else if k = 6 then (List.range (n ^ vars.length)).any fun i => semH n M kids T (V ++ vars.zip (tup n vars.length i))
  else if k = 7 then !(List.range (n ^ vars.length)).any fun i => !semH n M kids T (V ++ vars.zip (tup n vars.length i))
  else if k = 8 then (lfpR (fun X => (List.range (n ^ vars.length)).map fun i => semH n M kids (T ++ [(nm, X)]) (V ++ vars.zip (tup n vars.length i))) (n ^ vars.length + 1) (falses (n ^ vars.length))).getD (rankI n (args.map (val V)) 0).toNat false
  else if k = 9 then (match pfpR (fun X => (List.range (n ^ vars.length)).map fun i => semH n M kids (T ++ [(nm, X)]) (V ++ vars.zip (tup n vars.length i))) M [] (falses (n ^ vars.length)) with | none => false | some X => X.getD (rankI n (args.map (val V)) 0).toNat false)
  else if k = 10 then cloR (fun x y => semH n M kids T (V ++ vars.zip (tup n (vars.length / 2) x ++ tup n (vars.length / 2) y))) (n ^ (vars.length / 2)) (rankI n ((args.map (val V)).take (vars.length / 2)) 0).toNat (n ^ (vars.length / 2)) (rankI n ((args.map (val V)).drop (vars.length / 2)) 0).toNat
  else gsR (fun X => semH n M kids (T ++ [(nm, X)]) V) (2 ^ (n ^ ar.toNat)) (falses (n ^ ar.toNat))
def semH (n M : Nat) : List GFml → TT → VV → Bool
 | [], _, _ => false
 | x :: _, T, V => sem n M x T V
def semA (n M : Nat) : List GFml → TT → VV → Bool
 | [], _, _ => true
 | x :: l, T, V => sem n M x T V && semA n M l T V
def semO (n M : Nat) : List GFml → TT → VV → Bool
 | [], _, _ => false
 | x :: l, T, V => sem n M x T V || semO n M l T V
end
theorem semH_one (n M : Nat) (x : GFml) (l : List GFml) (T : TT) (V : VV) : semH n M (x :: l) T V = sem n M x T V := by rw [semH]
theorem shaped_no {f : GFml} (h : shapedP f = true) (h8 : f.Kind = 3 ∨ f.Kind = 4 ∨ f.Kind = 5 ∨ f.Kind = 11) : f.Vars = [] := by
 simp only [shapedP, shp3, bA, dT] at h
 have h2 := h.2.1.2.1.2
 rcases h8 with e | e | e | e <;> (rw [e] at h2; simp [rulesP] at h2; exact h2)
theorem shaped_q1 {f : GFml} (h : shapedP f = true) (h8 : f.Kind = 6 ∨ f.Kind = 7 ∨ f.Kind = 8 ∨ f.Kind = 9 ∨ f.Kind = 10 ∨ f.Kind = 11 ∨ f.Kind = 3) : f.Kids.length = 1 := by
 simp only [shapedP, shp1, bA, dT] at h
 have h1 := h.1.1.1.1.1
 have h2 := h.1.1.1.1.2
 rcases h8 with e | e | e | e | e | e | e <;> (rw [e] at h1 h2; simp [rulesP] at h1 h2; omega)
def VJ (tk0 : List ByteArray) (V V' : VV) (σ : Sb) (tk : List ByteArray) : Prop := ∀ v ∈ tk0, rnS σ v ∈ tk ∧ val V v = val V' (rnS σ v)
theorem VJ.mono {tk0 tk tk' : List ByteArray} {V V' : VV} {σ : Sb} (h : VJ tk0 V V' σ tk) (k : ∀ x ∈ tk, x ∈ tk') : VJ tk0 V V' σ tk' := fun v hv => ⟨k _ (h v hv).1, (h v hv).2⟩
theorem VJ.step {tk0 tk : List ByteArray} {V V' : VV} {σ : Sb} {v w : ByteArray} (x : Int) (h : VJ tk0 V V' σ tk) (hw : w ∉ tk) : VJ tk0 (V ++ [(v, x)]) (V' ++ [(w, x)]) (up1 σ v w) (tk ++ [w]) := by
 intro u hu
 by_cases e : u = v
 ·have e1 : rnS (up1 σ v w) u = w := by rw [rnS, up1, if_pos e]; rfl
  rw [e1, val_snoc, val_snoc, if_pos e.symm, if_pos rfl]
  exact ⟨by simp, rfl⟩
 ·have e1 : rnS (up1 σ v w) u = rnS σ u := by rw [rnS, rnS, up1, if_neg e]
  obtain ⟨h1, h2⟩ := h u hu
  have hne : ¬ w = rnS σ u := fun e => hw (e ▸ h1)
  rw [e1, val_snoc, val_snoc, if_neg (fun e' => e e'.symm), if_neg hne]
  exact ⟨by simp [h1], h2⟩
theorem shaped_eq2 {f : GFml} (h : shapedP f = true) (h8 : f.Kind = 1 ∨ f.Kind = 2) : f.Args.length = 2 := by
 simp only [shapedP, shp3, bA, dT] at h
 have h1 := h.2.1.1.1.1
 have h2 := h.2.1.1.1.2
 rcases h8 with e | e <;> (rw [e] at h1 h2; simp [rulesP] at h1 h2; omega)
theorem shaped_tc {f : GFml} (h : shapedP f = true) (h8 : f.Kind = 10) : f.Vars.length % 2 = 0 := by
 simp only [shapedP, shp2, bA, Bool.not_eq_true', Bool.and_eq_false_iff, dF, Bool.not_eq_false', dT] at h
 rcases h.1.2.2 with e | e
 ·exact (e h8).elim
 ·omega
theorem kind_bd {f : GFml} (h : shapedP f = true) : 0 ≤ f.Kind ∧ f.Kind ≤ 11 := by
 by_cases q : 0 ≤ f.Kind ∧ f.Kind ≤ 11
 ·exact q
 ·exfalso
  have e : rulesP f.Kind = ⟨1, 0, 0, 0, 0, 0, false, false, false⟩ := by
   unfold rulesP
   simp only [show ¬ f.Kind = 0 by omega, show ¬ (f.Kind = 1 ∨ f.Kind = 2) by omega, show ¬ f.Kind = 3 by omega, show ¬ (f.Kind = 4 ∨ f.Kind = 5) by omega, show ¬ (f.Kind = 6 ∨ f.Kind = 7) by omega, show ¬ (f.Kind = 8 ∨ f.Kind = 9) by omega, show ¬ f.Kind = 10 by omega, show ¬ f.Kind = 11 by omega, if_false]
  simp only [shapedP, shp1, e, bA, dT] at h
  omega
mutual
def fvB (s : ByteArray) : GFml → Bool
 | ⟨_, _, _, vars, args, kids⟩ => has args s || (!has vars s && fvBL s kids)
def fvBL (s : ByteArray) : List GFml → Bool
 | [] => false
 | x :: l => fvB s x || fvBL s l
end
def VEq (f : ByteArray → Bool) (V V' : VV) : Prop := ∀ s, f s = true → val V s = val V' s
theorem val_zip_in (V V' : VV) : ∀ (vars : List ByteArray) (ts : List Int), ts.length = vars.length → ∀ s, (s ∉ vars → val V s = val V' s) → val (V ++ vars.zip ts) s = val (V' ++ vars.zip ts) s := by
 intro vars ts hl s h
 unfold val
 rw [lkT_app, lkT_app]
 cases hz : lkT (vars.zip ts) s with
 | some x => rfl
 | none =>
  refine h fun hm => ?_
  have key : ∀ (vars : List ByteArray) (ts : List Int), ts.length = vars.length → s ∈ vars → lkT (vars.zip ts) s ≠ none := by
   intro vars
   induction vars with
   | nil => intro ts _ h; cases h
   | cons v l ih =>
    intro ts ht hm
    cases ts with
    | nil => simp at ht
    | cons t ts =>
     rw [List.zip_cons_cons, lkT]
     cases hr : lkT (l.zip ts) s with
     | some x => simp
     | none =>
      rcases List.mem_cons.1 hm with rfl | hm
      ·simp
      ·exact (ih ts (by simpa using ht) hm hr).elim
  exact key vars ts hl hm hz
theorem map_val_eq {V V' : VV} : ∀ l : List ByteArray, (∀ s ∈ l, val V s = val V' s) → l.map (val V) = l.map (val V')
 | [], _ => rfl
 | x :: l, h => by rw [List.map_cons, List.map_cons, h x (by simp), map_val_eq l (fun s hs => h s (by simp [hs]))]
theorem getD_val {V V' : VV} (l : List ByteArray) (h : ∀ s ∈ l, val V s = val V' s) (i : Nat) (hi : i < l.length) : val V (l.getD i empB) = val V' (l.getD i empB) := by
 rw [List.getD_eq_getElem?_getD, List.getElem?_eq_getElem hi]
 exact h _ (List.getElem_mem hi)
def TEq (f : ByteArray → Bool) (T T' : TT) : Prop := ∀ s, f s = true → lkT T s = lkT T' s
theorem TEq.push {f g : ByteArray → Bool} {T T' : TT} {nm : ByteArray} (h : TEq f T T') (k : ∀ s, g s = true → s ≠ nm → f s = true) (X : List Bool) : TEq g (T ++ [(nm, X)]) (T' ++ [(nm, X)]) := by
 intro s hs
 rw [lkT_snoc, lkT_snoc]
 by_cases e : nm = s
 ·simp [e]
 ·simp only [e, if_false]; exact h s (k s hs fun e' => e e'.symm)
theorem VEq.push {f g : ByteArray → Bool} {V V' : VV} {vars : List ByteArray} (h : VEq f V V') (k : ∀ s, g s = true → s ∉ vars → f s = true) (ts : List Int) (hl : ts.length = vars.length) : VEq g (V ++ vars.zip ts) (V' ++ vars.zip ts) := by
 intro s hs
 exact val_zip_in V V' vars ts hl s fun hn => h s (k s hs hn)
mutual
theorem sem_env (n M : Nat) : ∀ (f : GFml) (T T' : TT) (V V' : VV), shsF f = true → TEq (fun s => ocs s f) T T' → VEq (fun s => fvB s f) V V' → sem n M f T V = sem n M f T' V'
 | ⟨k, ar, nm, vars, args, kids⟩, T, T', V, V', hs, hT, hV => by
  rw [shsF, bA] at hs
  have hkb := kind_bd hs.2
  have hk : k = 0 ∨ k = 1 ∨ k = 2 ∨ k = 3 ∨ k = 4 ∨ k = 5 ∨ k = 6 ∨ k = 7 ∨ k = 8 ∨ k = 9 ∨ k = 10 ∨ k = 11 := by simp only at hkb; omega
  have hva : ∀ s ∈ args, val V s = val V' s := fun s hs => hV s (by simp only [fvB]; rw [has_mem.2 hs]; rfl)
  have hma := map_val_eq args hva
  have hfk : ∀ s, fvBL s kids = true → s ∉ vars → fvB s ⟨k, ar, nm, vars, args, kids⟩ = true := fun s h1 h2 => by
   rw [fvB, h1, has_not.2 h2]; simp
  have hok : ∀ s, ocsL s kids = true → k ≠ 0 → (bindsB ⟨k, ar, nm, vars, args, kids⟩ = true → nm ≠ s) → ocs s ⟨k, ar, nm, vars, args, kids⟩ = true := fun s h1 h2 h3 => by
   rw [ocs, show (k == 0) = false by simpa using h2, cond_false]
   cases hb : bindsB ⟨k, ar, nm, vars, args, kids⟩ with
   | false => exact h1
   | true => rw [decide_eq_false (h3 hb)]; exact h1
  have hL := sem_envL n M kids
  have hplain : k ≠ 0 → bindsB ⟨k, ar, nm, vars, args, kids⟩ = false → TEq (fun s => ocsL s kids) T T' := fun h1 h2 s h => hT s (hok s h h1 (by rw [h2]; intro h; cases h))
  have hbind : k ≠ 0 → ∀ X, TEq (fun s => ocsL s kids) (T ++ [(nm, X)]) (T' ++ [(nm, X)]) := fun h1 X => TEq.push hT (fun s h2 h3 => hok s h2 h1 fun _ => fun e => h3 e.symm) X
  have hvk : ∀ ts : List Int, ts.length = vars.length → VEq (fun s => fvBL s kids) (V ++ vars.zip ts) (V' ++ vars.zip ts) := fun ts hl => VEq.push hV hfk ts hl
  have hv0 : vars = [] → VEq (fun s => fvBL s kids) V V' := fun e => by
   have := hvk [] (by rw [e]; rfl)
   simpa using this
  rw [sem, sem]
  rcases hk with rfl | rfl | rfl | rfl | rfl | rfl | rfl | rfl | rfl | rfl | rfl | rfl
  ·have : lkT T nm = lkT T' nm := hT nm (by simp [ocs])
   simp only [if_true, this, hma]
  ·have h2 := shaped_eq2 hs.2 (.inl rfl)
   simp only at h2
   simp only [getD_val args hva 0 (by omega), getD_val args hva 1 (by omega)]
   rfl
  ·have h2 := shaped_eq2 hs.2 (.inr rfl)
   simp only at h2
   simp only [getD_val args hva 0 (by omega), getD_val args hva 1 (by omega)]
   rfl
  ·simp only [(hL T T' V V' hs.1 (hplain (by omega) rfl) (hv0 (shaped_no hs.2 (by simp)))).1]; rfl
  ·simp only [(hL T T' V V' hs.1 (hplain (by omega) rfl) (hv0 (shaped_no hs.2 (by simp)))).2.1]; rfl
  ·simp only [(hL T T' V V' hs.1 (hplain (by omega) rfl) (hv0 (shaped_no hs.2 (by simp)))).2.2]; rfl
  ·simp only [fun i => (hL T T' _ _ hs.1 (hplain (by omega) rfl) (hvk (tup n vars.length i) (tup_len _ _ _))).1]; rfl
  ·simp only [fun i => (hL T T' _ _ hs.1 (hplain (by omega) rfl) (hvk (tup n vars.length i) (tup_len _ _ _))).1]; rfl
  ·simp only [hma, fun i X => (hL _ _ _ _ hs.1 (hbind (by omega) X) (hvk (tup n vars.length i) (tup_len _ _ _))).1]; rfl
  ·simp only [hma, fun i X => (hL _ _ _ _ hs.1 (hbind (by omega) X) (hvk (tup n vars.length i) (tup_len _ _ _))).1]; rfl
  ·have h2 := shaped_tc hs.2 rfl
   simp only at h2
   simp only [hma, fun x y => (hL T T' _ _ hs.1 (hplain (by omega) rfl) (hvk (tup n (vars.length / 2) x ++ tup n (vars.length / 2) y) (by rw [lA, tup_len, tup_len]; omega))).1]; rfl
  ·simp only [fun X => (hL _ _ V V' hs.1 (hbind (by omega) X) (hv0 (shaped_no hs.2 (by simp)))).1]; rfl
theorem sem_envL (n M : Nat) : ∀ (l : List GFml) (T T' : TT) (V V' : VV), shsFs l = true → TEq (fun s => ocsL s l) T T' → VEq (fun s => fvBL s l) V V' → semH n M l T V = semH n M l T' V' ∧ semA n M l T V = semA n M l T' V' ∧ semO n M l T V = semO n M l T' V'
 | [], T, T', V, V', hs, hT, hV => by simp [semH, semA, semO]
 | x :: l, T, T', V, V', hs, hT, hV => by
  rw [shsFs, bA] at hs
  have h1 := sem_env n M x T T' V V' hs.1 (fun s h => hT s (by simp only [ocsL]; rw [show ocs s x = true from h]; rfl)) (fun s h => hV s (by simp only [fvBL]; rw [show fvB s x = true from h]; rfl))
  have h2 := sem_envL n M l T T' V V' hs.2 (fun s h => hT s (by simp only [ocsL]; rw [show ocsL s l = true from h]; simp)) (fun s h => hV s (by simp only [fvBL]; rw [show fvBL s l = true from h]; simp))
  simp only [semH, semA, semO, h1, h2.2.1, h2.2.2]
  exact ⟨trivial, trivial, trivial⟩
end
def LB (X Y : List Bool) : Prop := ∀ i, X.getD i false = true → Y.getD i false = true
theorem LB.refl (X : List Bool) : LB X X := fun _ h => h
theorem LB.trans {X Y Z : List Bool} (h : LB X Y) (k : LB Y Z) : LB X Z := fun i hi => k i (h i hi)
theorem LB.falses (m : Nat) (Y : List Bool) : LB (falses m) Y := fun i h => by
 unfold Go.Proofs.YtlpndgodkkndnaaGreatDoor.falses at h
 rw [List.getD_eq_getElem?_getD, List.getElem?_replicate] at h
 split at h <;> cases h
def cntB (X : List Bool) : Nat := X.countP id
theorem cnt_lt : ∀ X Y : List Bool, X.length = Y.length → LB X Y → X ≠ Y → cntB X < cntB Y
 | [], [], _, _, h => (h rfl).elim
 | x :: X, [], hl, _, _ => by simp at hl
 | [], y :: Y, hl, _, _ => by simp at hl
 | x :: X, y :: Y, hl, h, hne => by
  have h0 : x = true → y = true := fun e => by have := h 0 (by simpa using e); simpa using this
  have ht : LB X Y := fun i hi => by have := h (i + 1) (by simpa using hi); simpa using this
  have hle : ∀ X Y : List Bool, X.length = Y.length → LB X Y → cntB X ≤ cntB Y := by
   intro X
   induction X with
   | nil => intro Y _ _; simp [cntB]
   | cons a X ih =>
    intro Y hl h
    cases Y with
    | nil => simp at hl
    | cons b Y =>
     have h0 : a = true → b = true := fun e => by have := h 0 (by simpa using e); simpa using this
     have := ih Y (by simpa using hl) (fun i hi => by have := h (i + 1) (by simpa using hi); simpa using this)
     simp only [cntB, List.countP_cons, id] at this ⊢
     cases a <;> cases b <;> simp_all <;> omega
  have hl' : X.length = Y.length := by simpa using hl
  by_cases e : X = Y
  ·subst e
   have hxy : x ≠ y := fun e => hne (by rw [e])
   cases x <;> cases y
   ·exact (hxy rfl).elim
   ·simp [cntB]
   ·have := h0 rfl; cases this
   ·exact (hxy rfl).elim
  ·have h1 := cnt_lt X Y hl' ht e
   simp only [cntB, List.countP_cons, id] at h1 ⊢
   cases x <;> cases y <;> simp_all <;> omega
theorem cnt_le (X : List Bool) : cntB X ≤ X.length := List.countP_le_length
def SM (S : List Bool → List Bool) : Prop := ∀ X Y, LB X Y → LB (S X) (S Y)
theorem lfp_fix {S : List Bool → List Bool} {m : Nat} (hS : SM S) (hm : ∀ X, (S X).length = m) : ∀ (k : Nat) (X : List Bool), X.length = m → LB X (S X) → m - cntB X < k → S (lfpR S k X) = lfpR S k X
 | 0, X, _, _, h => by omega
 | k + 1, X, hl, hX, h => by
  rw [lfpR]
  by_cases e : S X = X
  ·rw [if_pos e]; exact e
  ·rw [if_neg e]
   have h1 := cnt_lt X (S X) (by rw [hl, hm]) hX (fun e' => e e'.symm)
   have h2 := cnt_le (S X)
   rw [hm] at h2
   exact lfp_fix hS hm k (S X) (hm _) (hS _ _ hX) (by omega)
theorem lfp_le {S S' : List Bool → List Bool} {m : Nat} (hS : SM S) (hS' : SM S') (hm' : ∀ X, (S' X).length = m) (h : ∀ X, LB (S X) (S' X)) : ∀ (k : Nat) (X : List Bool), LB X (lfpR S' (m + 1) (falses m)) → LB (lfpR S k X) (lfpR S' (m + 1) (falses m))
 | 0, X, hX => hX
 | k + 1, X, hX => by
  have hf := lfp_fix hS' hm' (m + 1) (falses m) (by simp [falses]) (LB.falses _ _) (by omega)
  rw [lfpR]
  split
  ·exact hX
  ·refine lfp_le hS hS' hm' h k (S X) ?_
   have := (hS _ _ hX).trans (h _)
   rw [hf] at this
   exact this
def TLe (s : ByteArray) (T T' : TT) : Prop := (∀ u, u ≠ s → lkT T u = lkT T' u) ∧ ∃ b b', lkT T s = some b ∧ lkT T' s = some b' ∧ LB b b'
theorem TLe.push {s nm : ByteArray} {T T' : TT} (h : TLe s T T') (hn : nm ≠ s) (X : List Bool) : TLe s (T ++ [(nm, X)]) (T' ++ [(nm, X)]) := by
 refine ⟨fun u hu => ?_, ?_⟩
 ·rw [lkT_snoc, lkT_snoc, h.1 u hu]
 ·obtain ⟨b, b', h1, h2, h3⟩ := h.2
  exact ⟨b, b', by rw [lkT_snoc, if_neg hn, h1], by rw [lkT_snoc, if_neg hn, h2], h3⟩
theorem TLe.self {s : ByteArray} (T : TT) {X Y : List Bool} (h : LB X Y) : TLe s (T ++ [(s, X)]) (T ++ [(s, Y)]) := by
 refine ⟨fun u hu => ?_, X, Y, by rw [lkT_snoc, if_pos rfl], by rw [lkT_snoc, if_pos rfl], h⟩
 rw [lkT_snoc, lkT_snoc, if_neg (fun e => hu e.symm), if_neg (fun e => hu e.symm)]
theorem TLe.out {s : ByteArray} {T T' : TT} (h : TLe s T T') {f : ByteArray → Bool} (hf : f s = false) : TEq f T T' := fun u hu => h.1 u fun e => by rw [e, hf] at hu; cases hu
mutual
theorem pos_part (s : ByteArray) : ∀ (f : GFml) (odd : Bool), posF s f odd true = true → ocs s f = false
 | ⟨k, ar, nm, vars, args, kids⟩, odd, h => by
  rw [posF] at h
  rw [ocs]
  cases k0 : k == 0 with
  | true =>
   rw [k0, cond_true] at h
   rw [cond_true]
   simpa using h
  | false =>
   rw [k0, cond_false] at h
   rw [cond_false]
   cases hb : bindsB ⟨k, ar, nm, vars, args, kids⟩ && decide (nm = s) with
   | true => rfl
   | false =>
    rw [hb, cond_false, Bool.true_or] at h
    exact pos_partL s kids _ h
theorem pos_partL (s : ByteArray) : ∀ (l : List GFml) (odd : Bool), posFs s l odd true = true → ocsL s l = false
 | [], odd, h => by rw [ocsL]
 | x :: l, odd, h => by
  rw [posFs, bA] at h
  rw [ocsL, pos_part s x odd h.1, pos_partL s l odd h.2]; rfl
end
theorem clo_le {R R' : Nat → Nat → Bool} (h : ∀ x y, R x y = true → R' x y = true) (L a : Nat) : ∀ (k y : Nat), cloR R L a k y = true → cloR R' L a k y = true
 | 0, y, hy => hy
 | k + 1, y, hy => by
  rw [cloR, Bool.or_eq_true, List.any_eq_true] at hy
  rw [cloR, Bool.or_eq_true, List.any_eq_true]
  rcases hy with hy | ⟨x, hx, hxy⟩
  ·exact .inl (clo_le h L a k y hy)
  ·rw [bA] at hxy
   exact .inr ⟨x, hx, by rw [bA]; exact ⟨clo_le h L a k x hxy.1, h _ _ hxy.2⟩⟩
theorem gs_le {P P' : List Bool → Bool} (h : ∀ X, P X = true → P' X = true) : ∀ (k : Nat) (t : List Bool), gsR P k t = true → gsR P' k t = true
 | 0, t, ht => h t ht
 | k + 1, t, ht => by
  rw [gsR, Bool.or_eq_true, bA] at ht
  rw [gsR, Bool.or_eq_true, bA]
  rcases ht with ht | ⟨h1, h2⟩
  ·exact .inl (h t ht)
  ·exact .inr ⟨h1, gs_le h k _ h2⟩
theorem any_le {L : Nat} {P Q : Nat → Bool} (h : ∀ i, P i = true → Q i = true) (hp : (List.range L).any P = true) : (List.range L).any Q = true := by
 rw [List.any_eq_true] at hp ⊢
 obtain ⟨i, hi, hpi⟩ := hp
 exact ⟨i, hi, h i hpi⟩
theorem LB_map {L : Nat} {P Q : Nat → Bool} (h : ∀ i, P i = true → Q i = true) : LB ((List.range L).map P) ((List.range L).map Q) := by
 intro i hi
 rw [List.getD_eq_getElem?_getD, List.getElem?_map] at hi ⊢
 cases hr : (List.range L)[i]? with
 | none => rw [hr] at hi; cases hi
 | some j => rw [hr] at hi; exact h j hi
theorem shaped_kids0 {f : GFml} (h : shapedP f = true) (h8 : f.Kind = 1 ∨ f.Kind = 2) : f.Kids = [] := by
 simp only [shapedP, shp1, bA, dT] at h
 have h2 := h.1.1.1.1.2
 rcases h8 with e | e <;> (rw [e] at h2; simp [rulesP] at h2; exact h2)
mutual
theorem sem_mono (n M : Nat) : ∀ (f : GFml) (s : ByteArray) (odd : Bool) (T T' : TT) (V : VV), shsF f = true → grF f = true → posF s f odd false = true → TLe s T T' → (odd = false → sem n M f T V = true → sem n M f T' V = true) ∧ (odd = true → sem n M f T' V = true → sem n M f T V = true)
 | ⟨k, ar, nm, vars, args, kids⟩, s, odd, T, T', V, hs, hg, hp, hT => by
  by_cases hoc : ocs s ⟨k, ar, nm, vars, args, kids⟩ = false
  ·have he := sem_env n M ⟨k, ar, nm, vars, args, kids⟩ T T' V V hs (hT.out hoc) (fun _ _ => rfl)
   rw [he]; exact ⟨fun _ h => h, fun _ h => h⟩
  have hoc : ocs s ⟨k, ar, nm, vars, args, kids⟩ = true := by simpa using hoc
  rw [shsF, bA] at hs
  rw [grF, bA] at hg
  have hkb := kind_bd hs.2
  have hk : k = 0 ∨ k = 1 ∨ k = 2 ∨ k = 3 ∨ k = 4 ∨ k = 5 ∨ k = 6 ∨ k = 7 ∨ k = 8 ∨ k = 9 ∨ k = 10 ∨ k = 11 := by simp only at hkb; omega
  have hL := fun odd T T' V => sem_monoL n M kids s odd T T' V hs.1 hg.2
  rw [posF] at hp
  rw [ocs] at hoc
  rw [sem, sem]
  rcases hk with rfl | rfl | rfl | rfl | rfl | rfl | rfl | rfl | rfl | rfl | rfl | rfl
  ·have hnm : nm = s := by simpa using hoc
   subst hnm
   have ho : odd = false := by simpa using hp
   subst ho
   obtain ⟨b, b', h1, h2, h3⟩ := hT.2
   simp only [if_true, h1, h2]
   exact ⟨fun _ h => h3 _ h, fun h => by cases h⟩
  ·have := shaped_kids0 hs.2 (.inl rfl)
   simp only at this
   rw [this] at hoc
   simp [ocsL, bindsB] at hoc
  ·have := shaped_kids0 hs.2 (.inr rfl)
   simp only at this
   rw [this] at hoc
   simp [ocsL, bindsB] at hoc
  ·have hp' : posFs s kids (!odd) false = true := hp
   have h1 := hL (!odd) T T' V hp' hT
   have hle : 0 < kids.length := by have := shaped_q1 hs.2 (by simp); simp only at this; omega
   constructor
   ·intro ho
    subst ho
    show (!semH n M kids T V) = true → (!semH n M kids T' V) = true
    intro h
    rw [Bool.not_eq_true'] at h ⊢
    cases hx : semH n M kids T' V with
    | false => rfl
    | true => rw [((h1.2 rfl).1 hx)] at h; cases h
   ·intro ho
    subst ho
    show (!semH n M kids T' V) = true → (!semH n M kids T V) = true
    intro h
    rw [Bool.not_eq_true'] at h ⊢
    cases hx : semH n M kids T V with
    | false => rfl
    | true => rw [((h1.1 rfl).1 hx)] at h; cases h
  ·have h1 := hL odd T T' V hp hT
   exact ⟨fun ho => (h1.1 ho).2.1, fun ho => (h1.2 ho).2.1⟩
  ·have h1 := hL odd T T' V hp hT
   exact ⟨fun ho => (h1.1 ho).2.2, fun ho => (h1.2 ho).2.2⟩
  ·have h1 := fun V => hL odd T T' V hp hT
   exact ⟨fun ho => any_le fun i => ((h1 _).1 ho).1, fun ho => any_le fun i => ((h1 _).2 ho).1⟩
  ·have h1 := fun V => hL odd T T' V hp hT
   have hn : ∀ A B : Nat → Bool, (∀ i, A i = true → B i = true) → (!(List.range (n ^ vars.length)).any fun i => !A i) = true → (!(List.range (n ^ vars.length)).any fun i => !B i) = true := by
    intro A B hAB h
    rw [Bool.not_eq_true'] at h ⊢
    cases hx : (List.range (n ^ vars.length)).any fun i => !B i with
    | false => rfl
    | true =>
     rw [any_le (P := fun i => !B i) (Q := fun i => !A i) (fun i hi => by
      rw [Bool.not_eq_true'] at hi ⊢
      cases ha : A i with
      | false => rfl
      | true => rw [hAB i ha] at hi; cases hi) hx] at h
     cases h
   exact ⟨fun ho => hn _ _ fun i => ((h1 _).1 ho).1, fun ho => hn _ _ fun i => ((h1 _).2 ho).1⟩
  ·have hns : nm ≠ s := by
    intro e
    simp [bindsB, e] at hoc
   have hp' : posFs s kids odd false = true := by
    simpa [bindsB, hns] using hp
   have hg1 : posH nm kids = true := by simpa using hg.1
   have hpn : posFs nm kids false false = true := by
    have hl := shaped_q1 hs.2 (by simp)
    simp only at hl
    match kids, hl, hg1 with
    | [x], _, h => rw [posFs, posFs]; rw [posH] at h; rw [h]; rfl
   have hSM : ∀ T, SM (fun X => (List.range (n ^ vars.length)).map fun i => semH n M kids (T ++ [(nm, X)]) (V ++ vars.zip (tup n vars.length i))) := fun T X Y hXY => LB_map fun i => ((sem_monoL n M kids nm false _ _ _ hs.1 hg.2 hpn (TLe.self T hXY)).1 rfl).1
   have hlen : ∀ T X, ((fun X => (List.range (n ^ vars.length)).map fun i => semH n M kids (T ++ [(nm, X)]) (V ++ vars.zip (tup n vars.length i))) X).length = n ^ vars.length := fun T X => by simp
   constructor
   ·intro ho
    have hle := lfp_le (hSM T) (hSM T') (hlen T') (fun X => LB_map fun i => ((hL odd _ _ _ hp' (hT.push hns X)).1 ho).1) (n ^ vars.length + 1) (falses (n ^ vars.length)) (LB.falses _ _)
    exact fun h => hle _ h
   ·intro ho
    have hle := lfp_le (hSM T') (hSM T) (hlen T) (fun X => LB_map fun i => ((hL odd _ _ _ hp' (hT.push hns X)).2 ho).1) (n ^ vars.length + 1) (falses (n ^ vars.length)) (LB.falses _ _)
    exact fun h => hle _ h
  ·exfalso
   have hns : nm ≠ s := by
    intro e
    simp [bindsB, e] at hoc
   have hp' : posFs s kids odd true = true := by
    simpa [bindsB, hns] using hp
   rw [pos_partL s kids odd hp'] at hoc
   simp [bindsB, hns] at hoc
  ·have h1 := fun V => hL odd T T' V hp hT
   exact ⟨fun ho => clo_le (fun x y => ((h1 _).1 ho).1) _ _ _ _, fun ho => clo_le (fun x y => ((h1 _).2 ho).1) _ _ _ _⟩
  ·have hns : nm ≠ s := by
    intro e
    simp [bindsB, e] at hoc
   have hp' : posFs s kids odd false = true := by
    simpa [bindsB, hns] using hp
   exact ⟨fun ho => gs_le (fun X => ((hL odd _ _ _ hp' (hT.push hns X)).1 ho).1) _ _, fun ho => gs_le (fun X => ((hL odd _ _ _ hp' (hT.push hns X)).2 ho).1) _ _⟩
theorem sem_monoL (n M : Nat) : ∀ (l : List GFml) (s : ByteArray) (odd : Bool) (T T' : TT) (V : VV), shsFs l = true → grFs l = true → posFs s l odd false = true → TLe s T T' →
  (odd = false → (semH n M l T V = true → semH n M l T' V = true) ∧ (semA n M l T V = true → semA n M l T' V = true) ∧ (semO n M l T V = true → semO n M l T' V = true)) ∧
  (odd = true → (semH n M l T' V = true → semH n M l T V = true) ∧ (semA n M l T' V = true → semA n M l T V = true) ∧ (semO n M l T' V = true → semO n M l T V = true))
 | [], s, odd, T, T', V, hs, hg, hp, hT => by simp [semH, semA, semO]
 | x :: l, s, odd, T, T', V, hs, hg, hp, hT => by
  rw [shsFs, bA] at hs
  rw [grFs, bA] at hg
  rw [posFs, bA] at hp
  have h1 := sem_mono n M x s odd T T' V hs.1 hg.1 hp.1 hT
  have h2 := sem_monoL n M l s odd T T' V hs.2 hg.2 hp.2 hT
  simp only [semH, semA, semO, bA, Bool.or_eq_true]
  exact ⟨fun ho => ⟨h1.1 ho, fun h => ⟨h1.1 ho h.1, (h2.1 ho).2.1 h.2⟩, fun h => h.imp (h1.1 ho) (h2.1 ho).2.2⟩, fun ho => ⟨h1.2 ho, fun h => ⟨h1.2 ho h.1, (h2.2 ho).2.1 h.2⟩, fun h => h.imp (h1.2 ho) (h2.2 ho).2.2⟩⟩
end
structure TE where
 nm : ByteArray
 ar : Int
 hb : Nat
 bits : List Bool
def TE.av (t : TE) : AV := .st [.str t.nm, .int .i64 t.ar, .osl t.hb t.bits.length t.bits.length]
def TE.cells (t : TE) : List AV := [.str t.nm, .int .i64 t.ar, .osl t.hb t.bits.length t.bits.length]
def TE.row (t : TE) : Own := .row t.hb (t.bits.map bav)
def tcells (ts : List TE) : List AV := ts.flatMap TE.cells
theorem tcells_len : ∀ ts : List TE, (tcells ts).length = 3 * ts.length
 | [] => rfl
 | t :: ts => by
  have := tcells_len ts
  unfold tcells at this ⊢
  rw [List.flatMap_cons, lA, this, List.length_cons]
  simp [TE.cells]; omega
theorem tcells_app (a b : List TE) : tcells (a ++ b) = tcells a ++ tcells b := List.flatMap_append
theorem tcells_get : ∀ (ts : List TE) (i : Nat) (t : TE), ts[i]? = some t → (tcells ts)[3 * i]? = some (.str t.nm) ∧ (tcells ts)[3 * i + 1]? = some (.int .i64 t.ar) ∧ (tcells ts)[3 * i + 2]? = some (.osl t.hb t.bits.length t.bits.length)
 | [], i, t, h => by simp at h
 | u :: ts, 0, t, h => by
  obtain rfl : u = t := by simpa using h
  exact ⟨rfl, rfl, rfl⟩
 | u :: ts, i + 1, t, h => by
  have ih := tcells_get ts i t (by simpa using h)
  unfold tcells at ih ⊢
  rw [List.flatMap_cons, show 3 * (i + 1) = 3 * i + 3 by omega]
  exact ih
structure WS where
 N : Nat
 base : Nat
 long : Bool
 to : Option Nat
 tc : Nat
 tt : List AV
 ts : List TE
 no : Option Nat
 nc : Nat
 nt : List AV
 ns : List ByteArray
 vo : Option Nat
 vc : Nat
 vt : List AV
 vs : List Int
def WS.box (s : WS) : AV := .st [.int .i64 s.N, .int .i64 s.base, bfV s.to s.ts.length s.tc, bfV s.no s.ns.length s.nc, bfV s.vo s.vs.length s.vc, .bool s.long]
def wH (bw : Nat) (s : WS) : AH := .box bw s.box :: bfO s.to (tcells s.ts ++ s.tt) :: bfO s.no (s.ns.map AV.str ++ s.nt) :: bfO s.vo (s.vs.map iav ++ s.vt) :: s.ts.map TE.row
structure WS.Ok (s : WS) : Prop where
 n1 : 1 ≤ s.N
 n2 : s.N ≤ 64
 t1 : s.ts.length * 3 + s.tt.length = s.tc * 3
 t2 : s.to = none → s.ts.length = 0 ∧ s.tc = 0
 t3 : s.ts.length ≤ 10000
 m1 : s.ns.length + s.nt.length = s.nc
 m2 : s.no = none → s.ns.length = 0 ∧ s.nc = 0
 m3 : s.ns.length ≤ 100000
 v1 : s.vs.length + s.vt.length = s.vc
 v2 : s.vo = none → s.vs.length = 0 ∧ s.vc = 0
 v3 : s.vs.length = s.ns.length
 v4 : ∀ x ∈ s.vs, 0 ≤ x ∧ x < s.N
def WS.T (s : WS) : TT := s.ts.map fun t => (t.nm, t.bits)
def WS.V (s : WS) : VV := s.ns.zip s.vs
theorem val_bd {n : Int} (hn : 1 ≤ n) : ∀ (ns : List ByteArray) (vs : List Int), (∀ x ∈ vs, 0 ≤ x ∧ x < n) → ∀ v, 0 ≤ val (ns.zip vs) v ∧ val (ns.zip vs) v < n := by
 intro ns vs hv v
 have key : ∀ (V : VV), (∀ p ∈ V, 0 ≤ p.2 ∧ p.2 < n) → ∀ x, lkT V v = some x → 0 ≤ x ∧ x < n := by
  intro V
  induction V with
  | nil => intro _ x h; cases h
  | cons p V ih =>
   intro hp x h
   rw [lkT] at h
   cases hr : lkT V v with
   | some y => rw [hr] at h; exact ih (fun q hq => hp q (by simp [hq])) x (by rw [hr]; exact h)
   | none =>
    rw [hr] at h
    simp only at h
    split at h
    ·rw [← Option.some.inj h]; exact hp p (by simp)
    ·cases h
 unfold val
 cases hr : lkT (ns.zip vs) v with
 | none => exact ⟨Int.le_refl _, by show (0 : Int) < n; omega⟩
 | some x => exact key _ (fun p hp => hv p.2 (List.of_mem_zip (show (p.1, p.2) ∈ _ from hp)).2) x hr
theorem w_value (bw : Nat) (s : WS) (hs : s.Ok) (nm : ByteArray) : Tri Tryz.prog 177 [.ref bw 0, .str nm] (wH bw s) (D (.int .i64 (val s.V nm)) (wH bw s)) := by
 obtain ⟨_, _, _, _, _, m1, m2, m3, v1, v2, v3, v4⟩ := hs
 have hV : ∀ i x y, s.ns[i]? = some x → s.vs[i]? = some y → s.V.take (i + 1) = s.V.take i ++ [(x, y)] := fun i x y h1 h2 => by
  unfold WS.V
  rw [List.take_add_one]
  congr 1
  rw [(List.getElem?_zip_eq_some (z := (x, y))).2 ⟨h1, h2⟩]; rfl
 have hV0 : s.V.length = s.ns.length := by unfold WS.V; rw [List.length_zip]; omega
 generalize hVV : s.V = V at *
 refine Tri.enter 32 Tryz.func177 rfl rfl rfl rfl fun Fr w0 => ?_
 repeat' (first | refine AW.re 0 1 ?_ | (refine xS 1 2 ?_; refine AL.d (AOp.fr 3) ?_; refine AL.d (AOp.ll 0) ?_; refine AL.d (AOp.len_val (by kernel_rfl) rfl) ?_; refine AL.d (AOp.sub rfl rfl (by omega)) ?_; refine xN 1 ?_) | refine AW.go ?_ | fail)
 refine AW.prune [0, 1, 5] (AW.loop (fun mz af h => ∃ i : Nat, i ≤ s.ns.length ∧ mz = i ∧ af = [(0, .ref bw 0), (1, .str nm), (5, .int .i64 ((i : Int) - 1))] ∧ h = wH bw s ∧ val V nm = val (V.take i) nm) s.ns.length ⟨s.ns.length, Nat.le_refl _, rfl, rfl, rfl, by rw [List.take_of_length_le (by omega)]⟩ ?_)
 rintro mz af h ⟨i, hi, rfl, rfl, rfl, he⟩
 refine AW.seq ?_
 cases mz with
 | zero =>
  rw [he]
  repeat' (first | refine AW.re 2 2 ?_ | refine AW.re 6 1 ?_ | refine AW.jf ?_ | fail)
  all_goals try (exfalso; simp only [dT, dF, lM] at *; omega)
  exact AW.retv rfl ⟨rfl, rfl⟩
 | succ j =>
  obtain ⟨x, hx⟩ := get_lt (show j < s.ns.length by omega)
  obtain ⟨y, hy⟩ := get_lt (show j < s.vs.length by omega)
  obtain ⟨bn, hbn⟩ : ∃ b, s.no = some b := by
   cases h : s.no with
   | none => have := m2 h; omega
   | some b => exact ⟨b, rfl⟩
  obtain ⟨bv, hbv⟩ : ∃ b, s.vo = some b := by
   cases h : s.vo with
   | none => have := v2 h; omega
   | some b => exact ⟨b, rfl⟩
  have e1 : (((j + 1 : Nat) : Int) - 1).toNat * 1 = j := by omega
  have hx2 : (s.ns.map AV.str ++ s.nt)[(((j + 1 : Nat) : Int) - 1).toNat * 1]? = some (.str x) := by
   rw [e1, List.getElem?_append_left (by rw [lM]; omega)]; exact map_get hx
  have hy2 : (s.vs.map iav ++ s.vt)[(((j + 1 : Nat) : Int) - 1).toNat * 1]? = some (iav y) := by
   rw [e1, List.getElem?_append_left (by rw [lM]; omega)]; exact map_get hy
  have hh2 : (wH bw s)[2]? = some (.row bn (s.ns.map AV.str ++ s.nt)) := by
   show some (bfO s.no _) = _; rw [hbn]; rfl
  have hh3 : (wH bw s)[3]? = some (.row bv (s.vs.map iav ++ s.vt)) := by
   show some (bfO s.vo _) = _; rw [hbv]; rfl
  rw [hV j x y hx hy, val_snoc] at he
  have hA1 : bfA s.no = some ⟨bn, 0, none⟩ := by rw [hbn]; rfl
  have hA2 : bfA s.vo = some ⟨bv, 0, none⟩ := by rw [hbv]; rfl
  repeat' (first | refine AW.re 2 2 ?_ | (refine xS 4 2 ?_; refine AL.d (AOp.fr 3) ?_; refine AL.d (AOp.ll 0) ?_; refine AL.es 1 ?_; refine AL.d (AOp.index_val 1 rfl hA1 rfl (by omega) (by omega) (by kernel_rfl)) ?_; refine AL.d (AOp.load_cell 2 rfl hh2 hx2 rfl (by kernel_rfl)) ?_; refine xN 2 ?_) | refine AW.jj (fun hb => ?_) (fun hb => ?_) | refine AW.go ?_ | fail)
  all_goals try (exfalso; simp only [dT, dF, lM] at *; omega)
  all_goals rw [toList_beq] at hb
  ·have h : x = nm := by simpa using hb
   rw [if_pos h] at he
   repeat' (first | (refine xS 5 2 ?_; refine AL.d (AOp.fr 4) ?_; refine AL.d (AOp.ll 0) ?_; refine AL.es 1 ?_; refine AL.d (AOp.index_val 1 rfl hA2 rfl (by omega) (by omega) (by kernel_rfl)) ?_; refine AL.d (AOp.load_cell 3 rfl hh3 hy2 rfl (by kernel_rfl)) ?_; refine xN 1 ?_) | fail)
   exact AW.retv rfl ⟨by rw [he]; rfl, rfl⟩
  ·have h : ¬ x = nm := by simpa using hb
   rw [if_neg h] at he
   repeat' (first | (refine xS 3 1 ?_; refine AL.d (AOp.sub rfl rfl (by omega)) ?_; refine xN 1 ?_) | fail)
   exact AW.again_keep j [0, 1, 5] (by omega) ⟨j, by omega, rfl, by simp only [show (((j + 1 : Nat) : Int) - 1) = (j : Int) by omega]; rfl, rfl, he⟩
theorem set_mid {α : Type} (a r : List α) (x y : α) (i : Nat) (h : a.length = i) : (a ++ x :: r).set i y = a ++ y :: r := by
 subst h; simp
theorem w_Values (bw : Nat) (s : WS) (hs : s.Ok) (names : List ByteArray) (hl : names.length ≤ 100000) : Tri Tryz.prog 176 [.ref bw 0, strs names] (wH bw s) (D (ints (names.map (val s.V))) (wH bw s)) := by
 have hMx : (some (AV.int .i64 (names.map AV.str).length)) = some (.int .i64 (names.length : Nat)) := by rw [lM]
 have hv := fun nm => w_value bw s hs nm
 generalize hVV : s.V = V at *
 refine Tri.enter 26 Tryz.func176 rfl rfl rfl rfl fun Fr w0 => ?_
 repeat' (first | refine AW.re 0 1 ?_ | refine AW.go ?_ | fail)
 repeat' (first | (refine xS 1 2 ?_; refine AL.makeSlice (n := names.length) (e := 3) (c := .int .i64 0) (z := .int .i64 0) (bytes := 8) hMx hMx (by kernel_rfl) rfl (by omega) (by omega) rfl fun b => ?_; refine xN 1 ?_) | refine AW.re 2 1 ?_ | refine AW.go ?_ | fail)
 refine AW.prune [0, 1, 5, 6] (AW.loop (fun mz af h => ∃ (i : Nat) (o : List Int), i ≤ names.length ∧ mz = names.length - i ∧ af = [(0, .ref bw 0), (1, strs names), (5, .osl b names.length names.length), (6, .int .i64 i)] ∧ h = .row b (o.map iav ++ List.replicate (names.length - i) (.int .i64 0)) :: wH bw s ∧ o = (names.take i).map (val V)) names.length ⟨0, [], Nat.zero_le _, rfl, rfl, rfl, by simp⟩ ?_)
 rintro mz af h ⟨i, o, hi, rfl, rfl, rfl, he⟩
 refine AW.seq ?_
 by_cases hlt : i < names.length
 ·obtain ⟨x, hx⟩ := get_lt hlt
  have hx' : (names.map AV.str)[((i : Nat) : Int).toNat]? = some (.str x) := map_get hx
  have hol : o.length = i := by rw [he, lM, List.length_take]; omega
  have hc := tailD (hv x) [.row b (o.map iav ++ List.replicate (names.length - i) (.int .i64 0))]
  rw [show names.length - i = (names.length - (i + 1)) + 1 by omega, List.replicate_succ] at hc ⊢
  repeat' (first | refine AW.re 3 4 ?_ | refine AW.jj (fun hb => ?_) (fun hb => ?_) | refine AW.go ?_ | fail)
  all_goals try (exfalso; simp only [dT, dF, lM] at *; omega)
  repeat' (first | (refine xS 5 5 ?_; refine AL.d (iX hx') ?_; refine AL.es 1 ?_; refine AL.d (AOp.call rfl rfl hc) ?_; refine AL.d (AOp.index_osl rfl rfl (by omega) (by omega) (by kernel_rfl)) ?_; refine AL.store_cell 0 rfl rfl rfl (by simp; omega) rfl rfl (by kernel_rfl) ?_ <;> refine AL.nil ?_) | refine AW.go ?_ | fail)
  have hset : (o.map iav ++ AV.int .i64 0 :: List.replicate (names.length - (i + 1)) (.int .i64 0)).set ((i : Nat) : Int).toNat (.int .i64 (val V x)) = (o ++ [val V x]).map iav ++ List.replicate (names.length - (i + 1)) (.int .i64 0) := by
   rw [Int.toNat_natCast, set_mid _ _ _ _ _ (by rw [lM, hol]), List.map_append]; simp [iav]
  refine AW.frame_eq rfl (show _ = .row b ((o ++ [val V x]).map iav ++ List.replicate (names.length - (i + 1)) (.int .i64 0)) :: wH bw s from by rw [← hset]; rfl) ?_
  repeat' (first | (refine xS 4 1 ?_; refine AL.d AOp.ad ?_; refine xN 1 ?_) | fail)
  refine AW.again_keep (names.length - (i + 1)) [0, 1, 5, 6] (by omega) ⟨i + 1, o ++ [val V x], hlt, rfl, rfl, rfl, ?_⟩
  rw [he, List.take_add_one, hx]; simp
 ·have hi' : i = names.length := by omega
  subst hi'
  have ho2 : o = names.map (val V) := by rw [he, List.take_of_length_le (Nat.le_refl _)]
  rw [Nat.sub_self, List.replicate_zero, List.append_nil]
  repeat' (first | refine AW.re 3 4 ?_ | refine AW.jj (fun hb => ?_) (fun hb => ?_) | refine AW.go ?_ | fail)
  all_goals try (exfalso; simp only [dT, dF, lM] at *; omega)
  refine AW.freeze_row 0 5 rfl rfl (by rw [ho2]; simp) (all_map fun _ => rfl) ?_
  repeat' (first | refine AW.re 6 2 ?_ | fail)
  exact AW.retv rfl ⟨by rw [ho2]; rfl, rfl⟩
theorem powle {n : Nat} (hn : 1 ≤ n) {a b : Nat} (h : a ≤ b) : n ^ a ≤ n ^ b := Nat.pow_le_pow_right hn h
theorem rankI_bd {n : Nat} (hn : 1 ≤ n) : ∀ (t : List Int) (i : Nat) (r : Int), (∀ x ∈ t, 0 ≤ x ∧ x < n) → 0 ≤ r → r < (n ^ i : Nat) → 0 ≤ rankI n t r ∧ rankI n t r < (n ^ (i + t.length) : Nat)
 | [], i, r, _, h0, h1 => ⟨h0, h1⟩
 | x :: t, i, r, ht, h0, h1 => by
  have hx := ht x (by simp)
  have h2 : r * n + x < (n ^ (i + 1) : Nat) := by
   rw [Nat.pow_succ, Int.natCast_mul]
   have := Int.mul_le_mul_of_nonneg_right (show r + 1 ≤ (n ^ i : Nat) by omega) (show (0 : Int) ≤ n by omega)
   rw [Int.add_mul] at this; omega
  have h3 : 0 ≤ r * n + x := by have := Int.mul_nonneg h0 (show (0 : Int) ≤ n by omega); omega
  have := rankI_bd hn t (i + 1) (r * n + x) (fun y hy => ht y (by simp [hy])) h3 h2
  rw [rankI, List.length_cons, show i + (t.length + 1) = i + 1 + t.length by omega]
  exact this
theorem ref_rank3 (n : Nat) (hn : 1 ≤ n ∧ n ≤ 64) (t : List Int) (hl : t.length ≤ 60) (ht : ∀ x ∈ t, 0 ≤ x ∧ x < n) (hp : n ^ t.length ≤ 4096) : Tri Tryz.prog 174 [.int .i64 n, ints t] [] (D (.int .i64 (rankI n t 0)) []) := by
 refine Tri.enter 22 Tryz.func174 rfl rfl rfl rfl fun Fr w0 => ?_
 repeat' (first | refine AW.re 0 1 ?_ | refine AW.re 1 1 ?_ | refine AW.re 2 1 ?_ | refine AW.go ?_ | fail)
 refine AW.prune [0, 1, 5, 6] (AW.loop (fun mz af h => ∃ (i : Nat) (r : Int), i ≤ t.length ∧ mz = t.length - i ∧ af = [(0, .int .i64 n), (1, ints t), (5, .int .i64 r), (6, .int .i64 i)] ∧ h = [] ∧ (0 ≤ r ∧ r < (n ^ i : Nat) ∧ rankI n t 0 = rankI n (t.drop i) r)) t.length ⟨0, 0, Nat.zero_le _, rfl, rfl, rfl, ⟨by omega, by simp, rfl⟩⟩ ?_)
 rintro mz af h ⟨i, r, hi, rfl, rfl, rfl, he⟩
 refine AW.seq ?_
 by_cases hlt : i < t.length
 all_goals obtain ⟨r0, r1, he⟩ := he
 ·obtain ⟨x, hx⟩ := get_lt hlt
  have hx' : (t.map iav)[((i : Nat) : Int).toNat]? = some (iav x) := map_get hx
  have hxr := ht x (lG hx)
  rw [drop_cons hx, rankI] at he
  have h3 : r * n + n ≤ (n ^ (i + 1) : Nat) := by
   rw [Nat.pow_succ, Int.natCast_mul]
   have := Int.mul_le_mul_of_nonneg_right (show r + 1 ≤ (n ^ i : Nat) by omega) (show (0 : Int) ≤ n by omega)
   rw [Int.add_mul] at this; omega
  have hle := powle hn.1 (show i + 1 ≤ t.length by omega)
  have hnn : 0 ≤ r * n := Int.mul_nonneg r0 (by omega)
  repeat' (first | refine AW.re 3 4 ?_ | (refine xS 5 2 ?_; refine AL.d (AOp.mul rfl rfl (by omega)) ?_; refine AL.es 2 ?_; refine AL.d (iX hx') ?_; refine AL.es 1 ?_; refine AL.d AOp.ad ?_; refine xN 1 ?_) | (refine xS 4 1 ?_; refine AL.d AOp.ad ?_; refine xN 1 ?_) | refine AW.jj (fun hb => ?_) (fun hb => ?_) | refine AW.go ?_ | fail)
  all_goals try (exfalso; simp only [dT, dF, lM] at *; omega)
  exact AW.again_keep (t.length - (i + 1)) [0, 1, 5, 6] (by omega) ⟨i + 1, _, hlt, rfl, rfl, rfl, by omega, by omega, he⟩
 ·rw [List.drop_eq_nil_of_le (by omega), rankI] at he
  repeat' (first | refine AW.re 3 4 ?_ | refine AW.re 6 2 ?_ | refine AW.jj (fun hb => ?_) (fun hb => ?_) | refine AW.go ?_ | fail)
  all_goals try (exfalso; simp only [dT, dF, lM] at *; omega)
  exact AW.retv rfl ⟨by rw [he], rfl⟩
theorem w_in (bw : Nat) (s : WS) (hs : s.Ok) (nm : ByteArray) (t : List Int) (hl : t.length ≤ 60) (ht : ∀ x ∈ t, 0 ≤ x ∧ x < s.N) (hbits : ∀ bits, lkT s.T nm = some bits → s.N ^ t.length ≤ 4096 ∧ bits.length = s.N ^ t.length) :
  Tri Tryz.prog 175 [.ref bw 0, .str nm, ints t] (wH bw s) (D (.bool (match lkT s.T nm with | none => false | some bits => bits.getD (rankI s.N t 0).toNat false)) (wH bw s)) := by
 obtain ⟨n1, n2, t1, t2, t3, _, _, _, _, _, _, _⟩ := hs
 have hT : ∀ (i : Nat) (x : TE), s.ts[i]? = some x → s.T.take (i + 1) = s.T.take i ++ [(x.nm, x.bits)] := fun i x h => by
  unfold WS.T
  rw [List.take_add_one, List.getElem?_map, h]; rfl
 have hT0 : s.T.length = s.ts.length := by unfold WS.T; rw [lM]
 generalize hTT : s.T = TA at *
 refine Tri.enter 44 Tryz.func175 rfl rfl rfl rfl fun Fr w0 => ?_
 repeat' (first | refine AW.re 0 1 ?_ | (refine xS 1 2 ?_; refine AL.d (AOp.fr 2) ?_; refine AL.d (AOp.ll 0) ?_; refine AL.d (AOp.len_val (by kernel_rfl) rfl) ?_; refine AL.d (AOp.sub rfl rfl (by omega)) ?_; refine xN 1 ?_) | refine AW.go ?_ | fail)
 refine AW.prune [0, 1, 2, 7] (AW.loop (fun mz af h => ∃ i : Nat, i ≤ s.ts.length ∧ mz = i ∧ af = [(0, .ref bw 0), (1, .str nm), (2, ints t), (7, .int .i64 ((i : Int) - 1))] ∧ h = wH bw s ∧ lkT TA nm = lkT (TA.take i) nm) s.ts.length ⟨s.ts.length, Nat.le_refl _, rfl, rfl, rfl, by rw [List.take_of_length_le (by omega)]⟩ ?_)
 rintro mz af h ⟨i, hi, rfl, rfl, rfl, he⟩
 refine AW.seq ?_
 cases mz with
 | zero =>
  rw [he]
  repeat' (first | refine AW.re 2 2 ?_ | refine AW.re 6 1 ?_ | refine AW.jf ?_ | fail)
  all_goals try (exfalso; simp only [dT, dF, lM] at *; omega)
  exact AW.retv rfl ⟨rfl, rfl⟩
 | succ j =>
  obtain ⟨x, hx⟩ := get_lt (show j < s.ts.length by omega)
  obtain ⟨bt, hbt⟩ : ∃ b, s.to = some b := by
   cases h : s.to with
   | none => have := t2 h; omega
   | some b => exact ⟨b, rfl⟩
  obtain ⟨c0, c1, c2⟩ := tcells_get s.ts j x hx
  have hcl := tcells_len s.ts
  have hx0 : (tcells s.ts ++ s.tt)[(((j + 1 : Nat) : Int) - 1).toNat * 3 + 0]? = some (.str x.nm) := by
   rw [show (((j + 1 : Nat) : Int) - 1).toNat * 3 + 0 = 3 * j by omega, List.getElem?_append_left (by omega)]; exact c0
  have hx2 : (tcells s.ts ++ s.tt)[(((j + 1 : Nat) : Int) - 1).toNat * 3 + 2]? = some (.osl x.hb x.bits.length x.bits.length) := by
   rw [show (((j + 1 : Nat) : Int) - 1).toNat * 3 + 2 = 3 * j + 2 by omega, List.getElem?_append_left (by omega)]; exact c2
  have hh1 : (wH bw s)[1]? = some (.row bt (tcells s.ts ++ s.tt)) := by
   show some (bfO s.to _) = _; rw [hbt]; rfl
  have hA1 : bfA s.to = some ⟨bt, 0, none⟩ := by rw [hbt]; rfl
  have hhj : (wH bw s)[4 + j]? = some (.row x.hb (x.bits.map bav)) := by
   rw [show 4 + j = j + 4 by omega]
   show (s.ts.map TE.row)[j]? = _
   rw [List.getElem?_map, hx]; rfl
  rw [hT j x hx, lkT_snoc] at he
  repeat' (first | refine AW.re 2 2 ?_ | (refine xS 4 2 ?_; refine AL.d (AOp.fr 2) ?_; refine AL.d (AOp.ll 0) ?_; refine AL.es 1 ?_; refine AL.d (AOp.index_val 3 rfl hA1 rfl (by omega) (by omega) (by kernel_rfl)) ?_; refine AL.d (AOp.fr 0) ?_; refine AL.d (AOp.load_cell 1 rfl hh1 hx0 rfl (by kernel_rfl)) ?_; refine xN 2 ?_) | refine AW.jj (fun hb => ?_) (fun hb => ?_) | refine AW.go ?_ | fail)
  all_goals try (exfalso; simp only [dT, dF, lM] at *; omega)
  all_goals rw [toList_beq] at hb
  ·have h : x.nm = nm := by simpa using hb
   simp only [h, if_true] at he
   obtain ⟨hp, hbl⟩ := hbits _ he
   obtain ⟨r0, r1⟩ := rankI_bd n1 t 0 0 ht (Int.le_refl _) (by simp)
   rw [Nat.zero_add] at r1
   have hR := ref_rank3 s.N ⟨n1, n2⟩ t hl ht hp
   obtain ⟨bb, hbb⟩ := get_lt (show (rankI s.N t 0).toNat < x.bits.length by omega)
   have hbit : (x.bits.map bav)[(rankI s.N t 0).toNat]? = some (bav bb) := map_get hbb
   rw [he]
   generalize rankI (s.N : Int) t 0 = r at *
   repeat' (first | (refine AW.dq 5 ?_; refine AQ.es 2 ?_; refine AQ.p rfl (AOp.fr 2) ?_; refine AQ.p rfl (AOp.ll 0) ?_; refine AQ.es 1 ?_; refine AQ.p rfl (AOp.index_val 3 rfl hA1 rfl (by omega) (by omega) (by kernel_rfl)) ?_; refine AQ.p rfl (AOp.fr 2) ?_; refine AQ.p rfl (AOp.load_cell 1 rfl hh1 hx2 rfl (by kernel_rfl)) ?_; refine AQ.es 2 ?_; refine AQ.p rfl (AOp.fr 0) ?_; refine AQ.p rfl (AOp.ll 0) ?_; refine AQ.es 1 ?_; refine AQ.p rfl (AOp.call rfl rfl (hR.pure _)) ?_; refine AQ.p rfl (AOp.index_osl rfl rfl (by omega) (by omega) (by kernel_rfl)) ?_; refine AQ.p rfl (AOp.load_cell (4 + j) rfl hhj hbit rfl (by kernel_rfl)) ?_; refine AQ.es 1 ?_; refine AQ.nil ?_) | fail)
   exact AW.retv rfl ⟨by simp only [List.getD_eq_getElem?_getD, hbb]; rfl, rfl⟩
  ·have h : ¬ x.nm = nm := by simpa using hb
   simp only [h, if_false] at he
   repeat' (first | (refine xS 3 1 ?_; refine AL.d (AOp.sub rfl rfl (by omega)) ?_; refine xN 1 ?_) | fail)
   exact AW.again_keep j [0, 1, 2, 7] (by omega) ⟨j, by omega, rfl, by simp only [show (((j + 1 : Nat) : Int) - 1) = (j : Int) by omega]; rfl, rfl, he⟩
theorem ref_next (b m n : Nat) (l : List Int) (hm : l.length = m) (hn : 1 ≤ n ∧ n ≤ 64) (hl : ∀ x ∈ l, 0 ≤ x ∧ x < n) (hm2 : m ≤ 100000) :
  Tri Tryz.prog 193 [.osl b m m, .int .i64 n] [.row b (l.map iav)] (D (.bool (nxR n l.reverse).2) [.row b ((nxR n l.reverse).1.reverse.map iav)]) := by
 subst hm
 refine Tri.enter 28 Tryz.func193 rfl rfl rfl rfl fun Fr w0 => ?_
 repeat' (first | refine AW.re 0 1 ?_ | (refine xS 1 2 ?_; refine AL.d (AOp.sub rfl rfl (by omega)) ?_; refine xN 1 ?_) | refine AW.go ?_ | fail)
 refine AW.prune [0, 1, 5] (AW.loop (fun mz af h => ∃ i : Nat, i ≤ l.length ∧ mz = i ∧ af = [(0, .osl b l.length l.length), (1, .int .i64 n), (5, .int .i64 ((i : Int) - 1))] ∧ h = [.row b ((l.take i).map iav ++ List.replicate (l.length - i) (.int .i64 0))] ∧ nxR n l.reverse = (List.replicate (l.length - i) 0 ++ (nxR n (l.take i).reverse).1, (nxR n (l.take i).reverse).2)) l.length ⟨l.length, Nat.le_refl _, rfl, rfl, by simp, by simp⟩ ?_)
 rintro mz af h ⟨i, hi, rfl, rfl, rfl, he⟩
 refine AW.seq ?_
 cases mz with
 | zero =>
  rw [he]
  repeat' (first | refine AW.re 2 2 ?_ | refine AW.re 8 1 ?_ | refine AW.jf ?_ | fail)
  all_goals try (exfalso; simp only [dT, dF, lM] at *; omega)
  refine AW.retv rfl ⟨rfl, ?_⟩
  simp [nxR, iav]
 | succ j =>
  obtain ⟨x, hx⟩ := get_lt (show j < l.length by omega)
  have hxr := hl x (lG hx)
  have htk : l.take (j + 1) = l.take j ++ [x] := by rw [List.take_add_one, hx]; rfl
  have htl : ((l.take j).map iav).length = j := by rw [lM, List.length_take]; omega
  rw [htk, List.reverse_append] at he
  simp only [List.reverse_cons, List.reverse_nil, List.nil_append, List.singleton_append] at he
  rw [nxR] at he
  have hrow : (l.take (j + 1)).map iav ++ List.replicate (l.length - (j + 1)) (AV.int .i64 0) = (l.take j).map iav ++ iav x :: List.replicate (l.length - (j + 1)) (.int .i64 0) := by rw [htk]; simp
  rw [hrow]
  have hg : ∀ y : AV, ((l.take j).map iav ++ y :: List.replicate (l.length - (j + 1)) (AV.int .i64 0))[(((j + 1 : Nat) : Int) - 1).toNat]? = some y := fun y => by
   rw [show (((j + 1 : Nat) : Int) - 1).toNat = j by omega, List.getElem?_append_right (by omega), htl, Nat.sub_self]; rfl
  have hset : ∀ y z : AV, ((l.take j).map iav ++ y :: List.replicate (l.length - (j + 1)) (AV.int .i64 0)).set (((j + 1 : Nat) : Int) - 1).toNat z = (l.take j).map iav ++ z :: List.replicate (l.length - (j + 1)) (AV.int .i64 0) := fun y z => by
   rw [show (((j + 1 : Nat) : Int) - 1).toNat = j by omega, set_mid _ _ _ _ _ htl]
  have hll : (((j + 1 : Nat) : Int) - 1).toNat < ((l.take j).map iav ++ iav x :: List.replicate (l.length - (j + 1)) (AV.int .i64 0)).length := by
   rw [lA, htl, List.length_cons]; omega
  repeat' (first | refine AW.re 2 2 ?_ | refine AW.jj (fun hb => ?_) (fun hb => ?_) | refine AW.go ?_ | fail)
  all_goals try (exfalso; simp only [dT, dF, lM] at *; omega)
  repeat' (first | (refine xS 4 2 ?_; refine AL.d (AOp.index_osl rfl rfl (by omega) (by omega) (by kernel_rfl)) ?_; refine AL.d (AOp.load_cell 0 rfl rfl (hg _) rfl (by kernel_rfl)) ?_; refine AL.d (AOp.add rfl rfl (by omega)) ?_; refine AL.d (AOp.index_osl rfl rfl (by omega) (by omega) (by kernel_rfl)) ?_; refine AL.store_cell 0 rfl rfl rfl hll rfl rfl (by kernel_rfl) ?_; refine AL.nil ?_) | refine AW.go ?_ | fail)
  refine AW.frame_eq rfl (show _ = [Own.row b ((l.take j).map iav ++ iav (x + 1) :: List.replicate (l.length - (j + 1)) (.int .i64 0))] from by rw [← hset (iav x) (iav (x + 1))]; rfl) ?_
  repeat' (first | (refine xS 5 2 ?_; refine AL.d (AOp.index_osl rfl rfl (by omega) (by omega) (by kernel_rfl)) ?_; refine AL.d (AOp.load_cell 0 rfl rfl (hg _) rfl (by kernel_rfl)) ?_; refine xN 2 ?_) | refine AW.jj (fun hb => ?_) (fun hb => ?_) | refine AW.go ?_ | fail)
  ·have h : x + 1 < (n : Int) := by simpa using hb
   rw [if_pos h] at he
   repeat' (first | refine AW.re 6 1 ?_ | fail)
   refine AW.retv rfl ⟨by rw [he]; rfl, ?_⟩
   rw [he]
   simp only [List.reverse_append, List.reverse_cons, List.reverse_reverse, List.reverse_replicate, List.map_append, List.map_cons, List.map_replicate, List.append_assoc, List.map_nil, List.cons_append, List.nil_append]
   rfl
  ·have h : ¬ x + 1 < (n : Int) := by simpa using hb
   rw [if_neg h] at he
   have hll2 : (((j + 1 : Nat) : Int) - 1).toNat < ((l.take j).map iav ++ iav (x + 1) :: List.replicate (l.length - (j + 1)) (AV.int .i64 0)).length := by
    rw [lA, htl, List.length_cons]; omega
   repeat' (first | (refine xS 7 2 ?_; refine AL.d (AOp.index_osl rfl rfl (by omega) (by omega) (by kernel_rfl)) ?_; refine AL.store_cell 0 rfl rfl rfl hll2 rfl rfl (by kernel_rfl) ?_; refine AL.nil ?_) | (refine xS 3 1 ?_; refine AL.d (AOp.sub rfl rfl (by omega)) ?_; refine xN 1 ?_) | fail)
   refine AW.again_keep j [0, 1, 5] (by omega) ⟨j, by omega, rfl, by simp only [show (((j + 1 : Nat) : Int) - 1) = (j : Int) by omega]; rfl, ?_, ?_⟩
   ·show [Own.row b (((l.take j).map iav ++ iav (x + 1) :: List.replicate (l.length - (j + 1)) (AV.int .i64 0)).set _ _)] = _
    rw [hset, show l.length - j = (l.length - (j + 1)) + 1 by omega, List.replicate_succ]
    rfl
   ·rw [he, show l.length - j = (l.length - (j + 1)) + 1 by omega, List.replicate_succ']
    simp
inductive Mm where
 | m0
 | m1 (fr : Bool) (names : List ByteArray)
 | m2 (fr : Bool) (names : List ByteArray) (nn : Bool) (tab : TE)
def zTab : AV := .st [.str empB, .int .i64 0, .val (.slice none 0 0)]
def Mm.kn : Mm → Bool | .m0 => false | _ => true
def Mm.fr : Mm → Bool | .m0 => false | .m1 b _ => b | .m2 b _ _ _ => b
def Mm.dn : Mm → Bool | .m2 _ _ _ _ => true | _ => false
def Mm.nn : Mm → Bool | .m2 _ _ b _ => b | _ => false
def Mm.nav : Mm → AV | .m0 => .slt [] none 0 | .m1 _ l => strs l | .m2 _ l _ _ => strs l
def Mm.tab : Mm → AV | .m2 _ _ _ t => t.av | _ => zTab
def Mm.own : Mm → AH | .m2 _ _ _ t => [t.row] | _ => []
inductive NT where
 | mk (b : Nat) (f : GFml) (m : Mm) (kids : List NT)
def NT.b : NT → Nat | .mk b _ _ _ => b
def NT.f : NT → GFml | .mk _ f _ _ => f
def NT.m : NT → Mm | .mk _ _ m _ => m
def NT.kids : NT → List NT | .mk _ _ _ k => k
def nbox (f : GFml) (kb : List Nat) (m : Mm) : AV := .st [f.st, .sl (kb.map fun b => .ref b 0), .bool m.kn, .bool m.fr, .bool m.dn, .bool m.nn, m.nav, m.tab]
mutual
def nown : NT → AH
 | .mk b f m kids => .box b (nbox f (kids.map NT.b) m) :: (m.own ++ nownL kids)
def nownL : List NT → AH
 | [] => []
 | n :: l => nown n ++ nownL l
end
def NT.bx (n : NT) : Own := .box n.b (nbox n.f (n.kids.map NT.b) n.m)
def NT.rest (n : NT) : AH := n.m.own ++ nownL n.kids
theorem nown_eq (n : NT) : nown n = n.bx :: n.rest := by cases n; rw [nown]; rfl
def hH (bw : Nat) (s : WS) (n : NT) : AH := n.bx :: (wH bw s ++ n.rest)
structure Same (s s' : WS) : Prop where
 N : s'.N = s.N
 base : s'.base = s.base
 ts : s'.ts = s.ts
 ns : s'.ns = s.ns
 vs : s'.vs = s.vs
 ok : s'.Ok
theorem Same.refl {s : WS} (h : s.Ok) : Same s s := ⟨rfl, rfl, rfl, rfl, rfl, h⟩
theorem Same.trans {a b c : WS} (h : Same a b) (k : Same b c) : Same a c := ⟨k.N.trans h.N, k.base.trans h.base, k.ts.trans h.ts, k.ns.trans h.ns, k.vs.trans h.vs, k.ok⟩
theorem Same.T {s s' : WS} (h : Same s s') : s'.T = s.T := by unfold WS.T; rw [h.ts]
theorem Same.V {s s' : WS} (h : Same s s') : s'.V = s.V := by unfold WS.V; rw [h.ns, h.vs]
def HPost (bw : Nat) (s : WS) (n : NT) (K : NT → Prop) (v : AV) (Y : AH) : AEnd → AH → Prop := fun x h => x = .ret v ∧ ∃ s' n', h = Y ++ hH bw s' n' ∧ Same s s' ∧ n'.b = n.b ∧ n'.f = n.f ∧ K n'
end Go.Proofs.YtlpndgodkkndnaaGreatDoor
