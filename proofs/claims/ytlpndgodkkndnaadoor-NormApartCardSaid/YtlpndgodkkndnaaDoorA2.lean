/- Contracts of the functions, part 2. -/
import Derived.Test.YtlpndgodkkndnaaDoorA1
import Derived.Test.YtlpndgodkkndnaaDoorA1
import Derived.Test.YtlpndgodkkndnaaDoorS2
import Derived.Test.YtlpndgodkkndnaaDoorS3
namespace Go.Proofs.YtlpndgodkkndnaaDoor
open Go.RowKit Go.SX
set_option maxRecDepth 100000
set_option maxHeartbeats 4000000
set_option linter.unusedVariables false
set_option linter.unusedSimpArgs false
mutual
def plF : GFml → Bool
  | ⟨k, _, _, _, _, kids⟩ => decide (k ≤ 7) && !plL kids
def plL : List GFml → Bool
  | [] => false
  | x :: l => !plF x || plL l
end
theorem plL_any : ∀ l : List GFml, plL l = l.any fun x => !plF x
  | [] => rfl
  | x :: l => by rw [plL, List.any_cons, plL_any l]
theorem plain1 (x : GFml) {v : Bool} (hc : Tri Tryd.prog 41 [x.st] [] (D (.bool v) [])) : Tri Tryd.prog 62 [x.st] [] (D (.bool (!v)) []) := by
  obtain ⟨k, ar, nm, vars, args, kids⟩ := x
  refine Tri.enter 6 Tryd.func62 rfl rfl rfl rfl fun Fr w0 => ?_
  repeat' (first | (refine AW.r 0 ?_ <;> (first | refine AL.d (AOp.box_ro (v := .st [.int .i64 k, .int .i64 ar, .str nm, strs vars, strs args, .sl (kids.map GFml.av)]) rfl rfl) ?_ | refine AL.d (AOp.box_ro rfl rfl) ?_) <;> refine AL.es 1 ?_ <;> refine AL.nil ?_) | (refine AW.r 1 ?_ <;> refine AL.es 1 ?_ <;> refine AL.d (AOp.call rfl rfl hc) ?_ <;> refine AL.es 2 ?_ <;> refine AL.nil ?_) | refine AW.jt ?_ | refine AW.jf ?_ | refine AW.jj (fun hb => ?_) (fun hb => ?_) | refine AW.go ?_ | fail)
  exact AW.retv rfl ⟨rfl, rfl⟩
theorem n_plain : ∀ (N : Nat) (f : GFml) (hN : ndF f ≤ N) (ho : f.Ok), Tri Tryd.prog 41 [f.st] [] (D (.bool (plF f)) []) := by
  intro N
  induction N using Nat.strongRecOn with
  | _ N ih =>
    intro f hN ho
    have hnd := ndF_eq f
    obtain ⟨_, q6, q7⟩ := ho
    have hK := ContainsFunc_Fml f.Kids (by omega) 62 [] (fun x => !plF x) fun x hx => plain1 x (ih (ndF x) (by have := ndFs_mem hx; omega) x (Nat.le_refl _) (q7 x hx))
    obtain ⟨k, ar, nm, vars, args, kids⟩ := f
    rw [plF, plL_any]
    simp only at *
    generalize (kids.any fun x => !plF x) = R at *
    refine Tri.enter 12 Tryd.func41 rfl rfl rfl rfl fun Fr w0 => ?_
    repeat' (first | (refine AW.r 0 ?_ <;> (first | refine AL.d (AOp.box_ro (v := .st [.int .i64 k, .int .i64 ar, .str nm, strs vars, strs args, .sl (kids.map GFml.av)]) rfl rfl) ?_ | refine AL.d (AOp.box_ro rfl rfl) ?_) <;> refine AL.es 1 ?_ <;> refine AL.nil ?_) | (refine AW.r 1 ?_ <;> refine AL.es 4 ?_ <;> (first | refine AL.es 2 ?_ | (refine AL.gx (fun hb => ?_) (fun hb => ?_) <;> refine AL.es 2 ?_)) <;> (first | (refine AL.gd ?_; refine AL.d (AOp.call rfl rfl hK) ?_) | refine AL.gs ?_ | refine AL.gu ?_) <;> refine AL.es 3 ?_ <;> refine AL.nil ?_) | refine AW.jt ?_ | refine AW.jf ?_ | refine AW.jj (fun hb => ?_) (fun hb => ?_) | refine AW.go ?_ | fail)
    · exact AW.retv rfl ⟨by rw [hb]; simp, rfl⟩
    · exact AW.retv rfl ⟨retB (by rw [hb]; rfl), rfl⟩
mutual
def fiF : GFml → Bool
  | ⟨k, _, _, _, _, kids⟩ => !(decide (k ≥ 8) && decide (k ≤ 11)) && fiL kids
def fiL : List GFml → Bool
  | [] => true
  | x :: l => fiF x && fiL l
end
theorem ref_First : ∀ (N : Nat) (f : GFml) (hN : ndF f ≤ N) (ho : f.Ok), Tri Tryd.prog 18 [f.st] [] (D (.bool (fiF f)) []) := by
  intro N
  induction N using Nat.strongRecOn with
  | _ N ih =>
    intro f hN ho
    have hnd := ndF_eq f
    obtain ⟨_, q6, q7⟩ := ho
    obtain ⟨k, ar, nm, vars, args, kids⟩ := f
    rw [fiF]
    simp only at *
    refine Tri.enter 26 Tryd.func18 rfl rfl rfl rfl fun Fr w0 => ?_
    repeat' (first | (refine AW.r 0 ?_ <;> (first | refine AL.d (AOp.box_ro (v := .st [.int .i64 k, .int .i64 ar, .str nm, strs vars, strs args, .sl (kids.map GFml.av)]) rfl rfl) ?_ | refine AL.d (AOp.box_ro rfl rfl) ?_) <;> refine AL.es 1 ?_ <;> refine AL.nil ?_) | refine AW.jt ?_ | refine AW.jf ?_ | refine AW.jj (fun hb => ?_) (fun hb => ?_) | refine AW.go ?_ | fail)
    refine AW.cut (fun af ah => ∃ v : Bool, af = [(1, .at (.st [.int .i64 k, .int .i64 ar, .str nm, strs vars, strs args, .sl (kids.map GFml.av)])), (11, .bool v)] ∧ ah = [] ∧ v = (decide (k ≥ 8) && decide (k ≤ 11))) ?_ ?_
    · repeat' (first | (refine AW.r 1 ?_ <;> refine AL.es 4 ?_ <;> (first | refine AL.es 4 ?_ | (refine AL.gx (fun hb => ?_) (fun hb => ?_) <;> refine AL.es 4 ?_)) <;> refine AL.nil ?_) | refine AW.jt ?_ | refine AW.jf ?_ | refine AW.jj (fun hb => ?_) (fun hb => ?_) | refine AW.go ?_ | fail)
      all_goals refine AW.meet [1, 11] ⟨_, rfl, rfl, ?_⟩
      all_goals (rw [hb]; simp)
    rintro af ah ⟨v, rfl, rfl, hv⟩
    rw [← hv]
    clear hv
    cases v with
    | true =>
      repeat' (first | refine AW.re 2 1 ?_ | refine AW.jt ?_ | refine AW.jf ?_ | refine AW.jj (fun hb => ?_) (fun hb => ?_) | refine AW.go ?_ | fail)
      exact AW.retv rfl ⟨rfl, rfl⟩
    | false =>
    rw [Bool.not_false, Bool.true_and]
    repeat' (first | refine AW.re 3 1 ?_ | refine AW.jt ?_ | refine AW.jf ?_ | refine AW.jj (fun hb => ?_) (fun hb => ?_) | refine AW.go ?_ | fail)
    refine AW.prune [1, 3] (AW.loop (fun mz af h => ∃ (i : Nat), i ≤ kids.length ∧ mz = kids.length - i ∧ af = [(1, .at (.st [.int .i64 k, .int .i64 ar, .str nm, strs vars, strs args, .sl (kids.map GFml.av)])), (3, .int .i64 i)] ∧ h = [] ∧ fiL kids = fiL (kids.drop i)) kids.length ⟨0, Nat.zero_le _, rfl, rfl, rfl, rfl⟩ ?_)
    rintro mz af h ⟨i, hi, rfl, rfl, rfl, he⟩
    refine AW.seq ?_
    by_cases hlt : i < kids.length
    · obtain ⟨x, hx⟩ := get_lt hlt
      have hx' : (kids.map GFml.av)[((i : Nat) : Int).toNat]? = some (x.st) := GFml.get hx
      have hxm := List.mem_of_getElem? hx
      have hnx := ndFs_mem hxm
      have hc := ih (ndF x) (by omega) x (Nat.le_refl _) (q7 x hxm)
      rw [drop_cons hx, fiL] at he
      repeat' (first | refine AW.re 4 5 ?_ | (refine AW.r 6 ?_ <;> refine AL.es 3 ?_ <;> refine AL.d (AOp.index_sl rfl rfl (by omega) hx' (by kernel_rfl) rfl) ?_ <;> refine AL.es 1 ?_ <;> refine AL.d (AOp.call rfl rfl hc) ?_ <;> refine AL.es 1 ?_ <;> refine AL.nil ?_) | refine AW.re 7 1 ?_ | (refine AW.r 5 ?_ <;> refine AL.es 1 ?_ <;> refine AL.d AOp.ad ?_ <;> refine AL.es 1 ?_ <;> refine AL.nil ?_) | refine AW.jt ?_ | refine AW.jf ?_ | refine AW.jj (fun hb => ?_) (fun hb => ?_) | refine AW.go ?_ | fail)
      all_goals try (exfalso; simp only [decide_eq_true_eq, decide_eq_false_iff_not, List.length_map] at *; omega)
      · have h : fiF x = false := by simpa using hb
        exact AW.retv rfl ⟨retB (by rw [he, h]; rfl), rfl⟩
      · have h : fiF x = true := by simpa using hb
        refine AW.again_keep (kids.length - (i + 1)) [1, 3] (by omega) ⟨i + 1, hlt, rfl, rfl, rfl, ?_⟩
        rw [he, h]; rfl
    · rw [List.drop_eq_nil_of_le (by omega), fiL] at he
      rw [he]
      repeat' (first | refine AW.re 4 5 ?_ | refine AW.re 8 1 ?_ | refine AW.jt ?_ | refine AW.jf ?_ | refine AW.jj (fun hb => ?_) (fun hb => ?_) | refine AW.go ?_ | fail)
      all_goals try (exfalso; simp only [decide_eq_true_eq, decide_eq_false_iff_not, List.length_map] at *; omega)
      exact AW.retv rfl ⟨rfl, rfl⟩
end Go.Proofs.YtlpndgodkkndnaaDoor
namespace Go.Proofs.YtlpndgodkkndnaaDoor
open Go.RowKit Go.SX
set_option maxRecDepth 100000
set_option linter.unusedVariables false
set_option linter.unusedSimpArgs false
mutual
theorem eqF_refl : ∀ f : GFml, eqF f f = true
  | ⟨k, ar, nm, vars, args, kids⟩ => by rw [eqF]; simp [eqFs_refl kids]
theorem eqFs_refl : ∀ l : List GFml, eqFs l l = true
  | [] => by simp [eqFs]
  | x :: l => by rw [eqFs, eqF_refl x, eqFs_refl l]; rfl
end
mutual
theorem eqF_eq : ∀ f g : GFml, eqF f g = true → f = g
  | ⟨k, ar, nm, vars, args, kids⟩, ⟨k', ar', nm', vars', args', kids'⟩, h => by
    rw [eqF] at h
    simp only [Bool.and_eq_true, beq_iff_eq, decide_eq_true_eq] at h
    obtain ⟨⟨⟨⟨⟨⟨h1, h2⟩, h3⟩, h4⟩, h5⟩, h6⟩, h7⟩ := h
    subst h1; subst h2; subst h3; subst h4; subst h5
    rw [eqFs_eq kids kids' (by omega) h7]
theorem eqFs_eq : ∀ l m : List GFml, l.length = m.length → eqFs l m = true → l = m
  | [], [], _, _ => rfl
  | x :: l, [], h, _ => by simp at h
  | [], y :: m, h, _ => by simp at h
  | x :: l, y :: m, h, e => by
    rw [eqFs, Bool.and_eq_true] at e
    rw [eqF_eq x y e.1, eqFs_eq l m (by simpa using h) e.2]
end
mutual
theorem fi_pl : ∀ f : GFml, shsF f = true → fiF f = plF f
  | ⟨k, ar, nm, vars, args, kids⟩, h => by
    rw [shsF, Bool.and_eq_true] at h
    rw [fiF, plF, fi_plL kids h.1]
    have hk : 0 ≤ k ∧ k ≤ 11 := by
      have h2 := h.2
      by_cases q : 0 ≤ k ∧ k ≤ 11
      · exact q
      · exfalso
        have e : rulesP k = ⟨1, 0, 0, 0, 0, 0, false, false, false⟩ := by
          unfold rulesP
          simp only [show ¬ k = 0 by omega, show ¬ (k = 1 ∨ k = 2) by omega, show ¬ k = 3 by omega, show ¬ (k = 4 ∨ k = 5) by omega, show ¬ (k = 6 ∨ k = 7) by omega, show ¬ (k = 8 ∨ k = 9) by omega, show ¬ k = 10 by omega, show ¬ k = 11 by omega, if_false]
        simp only [shapedP, shp1, e, Bool.and_eq_true, decide_eq_true_eq] at h2
        omega
    by_cases q : k ≤ 7
    · rw [decide_eq_true q, decide_eq_false (show ¬ k ≥ 8 by omega)]; simp
    · rw [decide_eq_false q, decide_eq_true (show k ≥ 8 by omega), decide_eq_true (show k ≤ 11 by omega)]; simp
theorem fi_plL : ∀ l : List GFml, shsFs l = true → fiL l = !plL l
  | [], _ => by rw [fiL, plL]; rfl
  | x :: l, h => by
    rw [shsFs, Bool.and_eq_true] at h
    rw [fiL, plL, fi_pl x h.1, fi_plL l h.2]
    cases plF x <;> simp
end
end Go.Proofs.YtlpndgodkkndnaaDoor
namespace Go.Proofs.YtlpndgodkkndnaaDoor
open Go.RowKit Go.SX
set_option maxRecDepth 100000
set_option maxHeartbeats 4000000
set_option linter.unusedVariables false
set_option linter.unusedSimpArgs false
theorem shaped_kid {f : GFml} (h : shapedP f = true) (h8 : f.Kind = 8 ∨ f.Kind = 9) : f.Kids.length = 1 := by
  simp only [shapedP, shp1, Bool.and_eq_true, decide_eq_true_eq] at h
  have h1 := h.1.1.1.1.1
  have h2 := h.1.1.1.1.2
  rcases h8 with h8 | h8
  all_goals
    rw [h8] at h1 h2
    simp [rulesP] at h1 h2
    omega
theorem shaped_rel {f : GFml} (h : shapedP f = true) (h8 : f.Kind = 0) : f.Kids = [] := by
  simp only [shapedP, shp1, Bool.and_eq_true, decide_eq_true_eq] at h
  have h2 := h.1.1.1.1.2
  rw [h8] at h2
  simp [rulesP] at h2
  first | exact h2 | exact List.eq_nil_of_length_eq_zero (by omega)
structure CkS where
  n : Int
  d : Int
  bad : Bool
  F : List (ByteArray × Int)
  gF : MG
def pushE (env : ByteArray → List Int) (nm : ByteArray) (a : Int) : ByteArray → List Int := fun s => if s = nm then env s ++ [a] else env s
def psH (s : ByteArray) : List GFml → Bool
  | [] => false
  | x :: _ => ps2 s x true
mutual
def chk : GFml → Int → (ByteArray → List Int) → CkS → CkS
  | ⟨k, ar, nm, vars, args, kids⟩, lv, env, s =>
    if 4000 < s.n + 1 ∨ 60 < lv ∨ shapedP ⟨k, ar, nm, vars, args, kids⟩ = false then { s with n := s.n + 1, d := max s.d lv, bad := true }
    else if k = 0 then
      match (env nm).getLast? with
      | some a => { s with n := s.n + 1, d := max s.d lv, bad := a != args.length }
      | none => { n := s.n + 1, d := max s.d lv, bad := (match lookA s.F nm with | some a => a != args.length | none => false), F := setA s.F nm args.length, gF := gsetA s.F s.gF nm }
    else bif (chkL kids (lv + 1) (bif bindsB ⟨k, ar, nm, vars, args, kids⟩ then pushE env nm (bindsN ⟨k, ar, nm, vars, args, kids⟩) else env) { s with n := s.n + 1, d := max s.d lv }).bad then chkL kids (lv + 1) (bif bindsB ⟨k, ar, nm, vars, args, kids⟩ then pushE env nm (bindsN ⟨k, ar, nm, vars, args, kids⟩) else env) { s with n := s.n + 1, d := max s.d lv }
      else { chkL kids (lv + 1) (bif bindsB ⟨k, ar, nm, vars, args, kids⟩ then pushE env nm (bindsN ⟨k, ar, nm, vars, args, kids⟩) else env) { s with n := s.n + 1, d := max s.d lv } with bad := k == 8 && !psH nm kids }
def chkL : List GFml → Int → (ByteArray → List Int) → CkS → CkS
  | [], _, _, s => s
  | x :: l, lv, env, s => bif (chk x lv env s).bad then chk x lv env s else chkL l lv env (chk x lv env s)
end
def chk0 : CkS := ⟨0, 0, false, [], ⟨[], 0⟩⟩
mutual
def dpF : GFml → Nat
  | ⟨_, _, _, _, _, kids⟩ => 1 + dpFs kids
def dpFs : List GFml → Nat
  | [] => 0
  | x :: l => max (dpF x) (dpFs l)
end
theorem dpFs_zero : ∀ l : List GFml, dpFs l = 0 → l = []
  | [], _ => rfl
  | ⟨_, _, _, _, _, _⟩ :: l, h => by rw [dpFs, dpF] at h; omega
mutual
theorem ct_dp : ∀ (f : GFml) (lv : Nat), (ctF f lv).2 = min (dpF f) (lv + 1) ∧ (dpF f ≤ lv + 1 → (ctF f lv).1 = ndF f)
  | ⟨k, ar, nm, vars, args, kids⟩, lv => by
    rw [ctF, dpF, ndF]
    by_cases h0 : lv = 0
    · rw [if_pos h0]; subst h0
      refine ⟨by simp only; omega, fun h => ?_⟩
      have := dpFs_zero kids (by omega)
      subst this
      rfl
    · rw [if_neg h0]
      obtain ⟨h1, h2⟩ := ct_dps kids (lv - 1) 1 0
      refine ⟨by simp only; omega, fun h => ?_⟩
      have := h2 (by omega)
      simp only; omega
theorem ct_dps : ∀ (l : List GFml) (lv : Nat) (n d : Int), ((ctFs l lv n d).2 = max d (min (dpFs l : Int) (lv + 1)) ∨ d < 0) ∧ (dpFs l ≤ lv + 1 → (ctFs l lv n d).1 = n + ndFs l)
  | [], lv, n, d => by rw [ctFs, dpFs, ndFs]; refine ⟨?_, fun _ => by simp only; omega⟩; by_cases h : d < 0; exact .inr h; left; simp only; omega
  | x :: l, lv, n, d => by
    obtain ⟨a1, a2⟩ := ct_dp x lv
    obtain ⟨b1, b2⟩ := ct_dps l lv (n + (ctF x lv).1) (max d (ctF x lv).2)
    rw [ctFs, dpFs, ndFs]
    refine ⟨?_, fun h => ?_⟩
    · rcases b1 with b1 | b1
      · left; rw [b1]; omega
      · omega
    · rw [b2 (by omega), a2 (by omega)]; omega
end
mutual
theorem ps_part (s : ByteArray) : ∀ (f : GFml) (odd : Bool), posF s f odd true = !ocs s f
  | ⟨k, ar, nm, vars, args, kids⟩, odd => by
    rw [posF, ocs]
    cases (k == 0) with
    | true => simp
    | false =>
      rw [cond_false, cond_false]
      cases (bindsB ⟨k, ar, nm, vars, args, kids⟩ && decide (nm = s)) with
      | true => simp
      | false => rw [cond_false, cond_false, Bool.true_or, ps_partL s kids]
theorem ps_partL (s : ByteArray) : ∀ (l : List GFml) (odd : Bool), posFs s l odd true = !ocsL s l
  | [], odd => by rw [posFs, ocsL]; rfl
  | x :: l, odd => by rw [posFs, ocsL, ps_part s x, ps_partL s l, Bool.not_or]
end
mutual
theorem ps_pos (s : ByteArray) : ∀ (f : GFml) (ev : Bool), shsF f = true → ps2 s f ev = posF s f (!ev) false
  | ⟨k, ar, nm, vars, args, kids⟩, ev, h => by
    rw [shsF, Bool.and_eq_true] at h
    rw [ps2, posF]
    cases k0 : (k == 0) with
    | true => simp
    | false =>
      rw [cond_false, cond_false]
      cases (bindsB ⟨k, ar, nm, vars, args, kids⟩ && decide (nm = s)) with
      | true => simp
      | false =>
        rw [cond_false, cond_false, Bool.false_or]
        cases k9 : (k == 9) with
        | true =>
          have hl := shaped_kid h.2 (.inr (by simpa using k9))
          match kids, hl with
          | [y], _ =>
            rw [cond_true, ocH, posFs, posFs, ps_part, Bool.and_true]
        | false =>
          rw [cond_false, ps_posL s kids _ h.1]
          cases (k == 3) <;> cases ev <;> rfl
theorem ps_posL (s : ByteArray) : ∀ (l : List GFml) (ev : Bool), shsFs l = true → ps2L s l ev = posFs s l (!ev) false
  | [], ev, h => by rw [ps2L, posFs]
  | x :: l, ev, h => by
    rw [shsFs, Bool.and_eq_true] at h
    rw [ps2L, posFs, ps_pos s x ev h.1, ps_posL s l ev h.2]
end
theorem psH_posH (s : ByteArray) (l : List GFml) (h : shsFs l = true) : psH s l = posH s l := by
  cases l with
  | nil => rfl
  | cons x l =>
    rw [shsFs, Bool.and_eq_true] at h
    rw [psH, posH, ps_pos s x true h.1]; rfl
mutual
theorem ocF_app : ∀ (f : GFml) (bd : List ByteArray) (out : List GSym), ocF f bd out = out ++ ocF f bd []
  | ⟨k, ar, nm, vars, args, kids⟩, bd, out => by
    rw [ocF, ocF]
    cases (k == 0 && !(bd.any fun x => decide (x = nm))) with
    | true => simp
    | false => rw [cond_false, cond_false, ocFs_app kids]
theorem ocFs_app : ∀ (l : List GFml) (bd : List ByteArray) (out : List GSym), ocFs l bd out = out ++ ocFs l bd []
  | [], bd, out => by simp [ocFs]
  | x :: l, bd, out => by rw [ocFs, ocFs, ocFs_app l bd (ocF x bd out), ocFs_app l bd (ocF x bd []), ocF_app x bd out, List.append_assoc]
end
def insOk (F : List (ByteArray × Int)) (o : GSym) : Bool := match lookA F o.Name with | some a => a == o.Arity | none => true
def insF : List GSym → List (ByteArray × Int) → Option (List (ByteArray × Int))
  | [], F => some F
  | o :: l, F => bif insOk F o then insF l (setA F o.Name o.Arity) else none
theorem insF_app : ∀ (a b : List GSym) (F : List (ByteArray × Int)), insF (a ++ b) F = (insF a F).bind (insF b)
  | [], b, F => rfl
  | o :: a, b, F => by
    rw [List.cons_append, insF, insF]
    cases insOk F o with
    | true => rw [cond_true, cond_true, insF_app a b]
    | false => rfl
theorem look_set (F : List (ByteArray × Int)) (k k' : ByteArray) (v : Int) : lookA (setA F k v) k' = if k' = k then some v else lookA F k' := by
  induction F with
  | nil => simp only [setA, lookA]
  | cons p F ih =>
    obtain ⟨q, u⟩ := p
    rw [setA]
    by_cases e : k = q
    · subst e; rw [if_pos rfl]; simp only [lookA]; split <;> rfl
    · rw [if_neg e]; simp only [lookA, ih]
      by_cases e2 : k' = q
      · rw [if_pos e2, if_pos e2, if_neg (fun h => e (h.symm.trans e2))]
      · rw [if_neg e2, if_neg e2]
theorem insF_pair : ∀ (l pre : List GSym) (F : List (ByteArray × Int)), (∀ y ∈ pre, lookA F y.Name = some y.Arity) → (∀ n a, lookA F n = some a → ∃ y ∈ pre, y.Name = n) → (insF l F).isSome = pairG pre l
  | [], pre, F, h1, h2 => rfl
  | o :: l, pre, F, h1, h2 => by
    rw [insF, pairG]
    have e : (pre.all fun y => !clashB o y) = insOk F o := by
      rw [Bool.eq_iff_iff, List.all_eq_true]
      unfold insOk clashB
      constructor
      · intro h
        cases hl : lookA F o.Name with
        | none => rfl
        | some a =>
          obtain ⟨y, hy, hn⟩ := h2 _ _ hl
          have h3 := h y hy
          have h4 := h1 y hy
          rw [hn, hl] at h4
          obtain rfl := Option.some.inj h4
          simpa [hn] using h3
      · intro h y hy
        have h4 := h1 y hy
        by_cases hn : y.Name = o.Name
        · rw [hn] at h4
          rw [h4] at h
          simp only at h
          simp [hn] ; simpa using h
        · simp [hn]
    rw [e]
    cases hi : insOk F o with
    | false => rfl
    | true =>
      rw [cond_true, Bool.true_and]
      refine insF_pair l (pre ++ [o]) _ (fun y hy => ?_) (fun n a h => ?_)
      · rw [look_set]
        rcases List.mem_append.1 hy with hy | hy
        · have h4 := h1 y hy
          by_cases hn : y.Name = o.Name
          · rw [if_pos hn]
            rw [hn] at h4
            unfold insOk at hi
            rw [h4] at hi
            simp only [beq_iff_eq] at hi
            rw [hi]
          · rw [if_neg hn]; exact h4
        · simp only [List.mem_singleton] at hy; subst hy; rw [if_pos rfl]
      · rw [look_set] at h
        by_cases hn : n = o.Name
        · exact ⟨o, by simp, hn.symm⟩
        · rw [if_neg hn] at h
          obtain ⟨y, hy, e⟩ := h2 _ _ h
          exact ⟨y, by simp [hy], e⟩
theorem arAt_snoc (s : ByteArray) (b : List GSym) (o : GSym) : arAt s (b ++ [o]) (b ++ [o]).length = if o.Name = s then some o.Arity else arAt s b b.length := by
  have key : ∀ k, k ≤ b.length → arAt s (b ++ [o]) k = arAt s b k := by
    intro k
    induction k with
    | zero => intro _; rfl
    | succ k ih =>
      intro hk
      rw [arAt, arAt, List.getElem?_append_left (by omega), ih (by omega)]
  rw [List.length_append, List.length_singleton, arAt, List.getElem?_append_right (Nat.le_refl _), Nat.sub_self]
  simp only [List.getElem?_cons_zero]
  rw [key _ (Nat.le_refl _)]
def EnvRel (env : ByteArray → List Int) (bs : List GSym) (bd : List ByteArray) : Prop := (∀ n, (env n).getLast? = arAt n bs bs.length) ∧ ∀ n, (env n).getLast?.isSome = bd.any (fun x => decide (x = n))
theorem EnvRel.push {env : ByteArray → List Int} {bs : List GSym} {bd : List ByteArray} (h : EnvRel env bs bd) (nm : ByteArray) (a : Int) : EnvRel (pushE env nm a) (bs ++ [⟨nm, a⟩]) (bd ++ [nm]) := by
  refine ⟨fun n => ?_, fun n => ?_⟩
  · rw [arAt_snoc]
    simp only [pushE]
    by_cases e : n = nm
    · subst e; simp
    · rw [if_neg e, if_neg (fun h => e h.symm), h.1]
  · rw [List.any_append]
    simp only [pushE]
    by_cases e : n = nm
    · subst e; simp
    · rw [if_neg e, h.2]; simp [fun h : nm = n => e h.symm]; intro h; exact (e h.symm).elim
def ChkSpec (r s : CkS) (c : Prop) (nd : Nat) (oc : List GSym) : Prop := (r.bad = false ↔ c ∧ (insF oc s.F).isSome = true) ∧ (r.bad = false → r.n = s.n + nd ∧ insF oc s.F = some r.F)
mutual
theorem chk_spec : ∀ (f : GFml) (lv : Int) (env : ByteArray → List Int) (s : CkS) (bs : List GSym) (bd : List ByteArray), s.bad = false → EnvRel env bs bd →
    ChkSpec (chk f lv env s) s (s.n + ndF f ≤ 4000 ∧ lv + dpF f ≤ 61 ∧ shsF f = true ∧ arF f bs = true ∧ grF f = true) (ndF f) (ocF f bd [])
  | ⟨k, ar, nm, vars, args, kids⟩, lv, env, s, bs, bd, hb, hE => by
    unfold ChkSpec
    rw [chk, ndF, dpF, shsF, arF, grF, ocF]
    by_cases h0 : 4000 < s.n + 1 ∨ 60 < lv ∨ shapedP ⟨k, ar, nm, vars, args, kids⟩ = false
    · rw [if_pos h0]
      refine ⟨⟨fun h => by simp at h, fun h => ?_⟩, fun h => by simp at h⟩
      obtain ⟨⟨h1, h2, h3, _⟩, _⟩ := h
      rw [Bool.and_eq_true] at h3
      rcases h0 with h0 | h0 | h0
      · omega
      · omega
      · rw [h3.2] at h0; cases h0
    · rw [if_neg h0]
      have hs : shapedP ⟨k, ar, nm, vars, args, kids⟩ = true := by
        cases h : shapedP ⟨k, ar, nm, vars, args, kids⟩ with
        | true => rfl
        | false => exact (h0 (.inr (.inr h))).elim
      have h1 : s.n + 1 ≤ 4000 := by omega
      have h2 : lv ≤ 60 := by omega
      rw [hs, Bool.and_true]
      by_cases k0 : k = 0
      · obtain rfl : kids = [] := shaped_rel hs k0
        subst k0
        rw [if_pos rfl]
        have e0 : ((0 : Int) == 0) = true := rfl
        have e8 : ((0 : Int) == 8) = false := rfl
        have hl := hE.2 nm
        rw [hE.1] at hl
        rw [e0, e8, cond_true, Bool.true_and, ← hl, hE.1]
        cases hA : arAt nm bs bs.length with
        | some a =>
          simp only [Option.isSome_some, Bool.not_true, cond_false, ocFs, insF, arR, ndFs, dpFs, shsFs, grFs]
          refine ⟨⟨fun h => ⟨⟨by omega, by omega, trivial, by simpa using h, by simp⟩, trivial⟩, fun h => ?_⟩, fun h => ⟨by simp, trivial⟩⟩
          simpa using h.1.2.2.2.1
        | none =>
          simp only [Option.isSome_none, Bool.not_false, cond_true, List.nil_append, arR, insF, ndFs, dpFs, shsFs, grFs, insOk]
          cases hf : lookA s.F nm with
          | none =>
            simp only [cond_true]
            refine ⟨⟨fun h => ⟨⟨by omega, by omega, trivial, trivial, by simp⟩, by simp⟩, fun h => trivial⟩, fun h => ⟨by simp, trivial⟩⟩
          | some a =>
            simp only
            cases he : (a == (args.length : Int)) with
            | true =>
              have he' : (a != (args.length : Int)) = false := by simp [bne, he]
              refine ⟨⟨fun h => ⟨⟨by omega, by omega, trivial, trivial, by simp⟩, by simp [he]⟩, fun h => he'⟩, fun h => ⟨by simp, by simp [he]⟩⟩
            | false =>
              have he' : (a != (args.length : Int)) = true := by simp [bne, he]
              refine ⟨⟨fun h => ?_, fun h => by simp at h⟩, fun h => ?_⟩
              · rw [he'] at h; cases h
              · rw [he'] at h; cases h
      · rw [if_neg k0]
        have e0 : (k == 0) = false := by simpa using k0
        rw [e0, cond_false, Bool.false_and, cond_false]
        generalize hN : bindsN ⟨k, ar, nm, vars, args, kids⟩ = nA
        have hE2 : EnvRel (bif bindsB ⟨k, ar, nm, vars, args, kids⟩ then pushE env nm nA else env) (bif bindsB ⟨k, ar, nm, vars, args, kids⟩ then bs ++ [⟨nm, nA⟩] else bs) (bif bindsB ⟨k, ar, nm, vars, args, kids⟩ then bd ++ [nm] else bd) := by
          cases bindsB ⟨k, ar, nm, vars, args, kids⟩ with
          | true => exact hE.push nm nA
          | false => exact hE
        generalize (bif bindsB ⟨k, ar, nm, vars, args, kids⟩ then pushE env nm nA else env) = env2 at *
        generalize (bif bindsB ⟨k, ar, nm, vars, args, kids⟩ then bs ++ [⟨nm, nA⟩] else bs) = bs2 at *
        generalize (bif bindsB ⟨k, ar, nm, vars, args, kids⟩ then bd ++ [nm] else bd) = bd2 at *
        have hK := chkL_spec kids (lv + 1) env2 { s with n := s.n + 1, d := max s.d lv } bs2 bd2 hb (by omega) h1 hE2
        generalize chkL kids (lv + 1) env2 { s with n := s.n + 1, d := max s.d lv } = r at *
        obtain ⟨hK1, hK2⟩ := hK
        simp only at hK1 hK2
        cases hr : r.bad with
        | true =>
          rw [cond_true]
          rw [hr] at hK1
          refine ⟨⟨fun h => (by rw [hr] at h; cases h), fun h => ?_⟩, fun h => (by rw [hr] at h; cases h)⟩
          obtain ⟨⟨g1, g2, g3, g4, g5⟩, g6⟩ := h
          rw [Bool.and_eq_true] at g5
          have := hK1.2 ⟨⟨by omega, by omega, g3, g4, g5.2⟩, g6⟩
          cases this
        | false =>
          rw [cond_false]
          obtain ⟨⟨g1, g2, g3, g4, g5⟩, g6⟩ := hK1.1 hr
          obtain ⟨g7, g8⟩ := hK2 hr
          rw [psH_posH _ _ g3]
          cases hp : (k == 8 && !posH nm kids) with
          | true => exact ⟨⟨fun h => by simp at h, fun h => by simp at h⟩, fun h => by simp at h⟩
          | false => exact ⟨⟨fun _ => ⟨⟨by omega, by omega, g3, g4, by rw [g5]; rfl⟩, g6⟩, fun _ => rfl⟩, fun _ => ⟨by simp only; omega, g8⟩⟩
theorem chkL_spec : ∀ (l : List GFml) (lv : Int) (env : ByteArray → List Int) (s : CkS) (bs : List GSym) (bd : List ByteArray), s.bad = false → lv ≤ 61 → s.n ≤ 4000 → EnvRel env bs bd →
    ChkSpec (chkL l lv env s) s (s.n + ndFs l ≤ 4000 ∧ lv + dpFs l ≤ 61 ∧ shsFs l = true ∧ arFs l bs = true ∧ grFs l = true) (ndFs l) (ocFs l bd [])
  | [], lv, env, s, bs, bd, hb, h1, h2, hE => by
    unfold ChkSpec
    rw [chkL, ndFs, dpFs, shsFs, arFs, grFs, ocFs]
    exact ⟨⟨fun _ => ⟨⟨by omega, by omega, rfl, rfl, rfl⟩, rfl⟩, fun _ => hb⟩, fun _ => ⟨by omega, by simp [insF]⟩⟩
  | x :: l, lv, env, s, bs, bd, hb, h1, h2, hE => by
    unfold ChkSpec
    rw [chkL, ndFs, dpFs, shsFs, arFs, grFs, ocFs, ocFs_app, insF_app]
    obtain ⟨a1, a2⟩ := chk_spec x lv env s bs bd hb hE
    cases hr : (chk x lv env s).bad with
    | true =>
      rw [cond_true]
      refine ⟨⟨fun h => (by rw [hr] at h; cases h), fun h => ?_⟩, fun h => (by rw [hr] at h; cases h)⟩
      obtain ⟨⟨g1, g2, g3, g4, g5⟩, g6⟩ := h
      rw [Bool.and_eq_true] at g3 g4 g5
      rw [hr] at a1
      have := a1.2 ⟨⟨by omega, by omega, g3.1, g4.1, g5.1⟩, by
        cases hq : insF (ocF x bd []) s.F with
        | none => rw [hq] at g6; simp at g6
        | some _ => rfl⟩
      cases this
    | false =>
      rw [cond_false]
      obtain ⟨⟨g1, g2, g3, g4, g5⟩, g6⟩ := a1.1 hr
      obtain ⟨g7, g8⟩ := a2 hr
      obtain ⟨b1, b2⟩ := chkL_spec l lv env (chk x lv env s) bs bd hr h1 (by omega) hE
      rw [g8, g3, g4, g5, Bool.true_and, Bool.true_and, Bool.true_and, Option.bind_some]
      refine ⟨b1.trans ⟨fun h => ?_, fun h => ?_⟩, fun h => ?_⟩
      · obtain ⟨⟨q1, q2, q3⟩, q4⟩ := h
        exact ⟨⟨by omega, by omega, q3⟩, q4⟩
      · obtain ⟨⟨q1, q2, q3⟩, q4⟩ := h
        exact ⟨⟨by omega, by omega, q3⟩, q4⟩
      · obtain ⟨q1, q2⟩ := b2 h
        exact ⟨by omega, q2⟩
end
theorem chk_valid (f : GFml) : (chk f 1 (fun _ => []) chk0).bad = !validF f := by
  obtain ⟨h, _⟩ := chk_spec f 1 (fun _ => []) chk0 [] [] rfl ⟨fun _ => rfl, fun _ => rfl⟩
  have hp := insF_pair (ocF f [] []) [] [] (by simp) (by simp [lookA])
  obtain ⟨c1, c2⟩ := ct_dp f 61
  have e : (chk f 1 (fun _ => []) chk0).bad = false ↔ validF f = true := by
    rw [h]
    unfold validF
    simp only [Bool.and_eq_true, decide_eq_true_eq]
    show (_ ∧ (insF (ocF f [] []) []).isSome = true) ↔ _
    rw [hp]
    have e0 : chk0.n = 0 := rfl
    constructor
    · rintro ⟨⟨q1, q2, q3, q4, q5⟩, q6⟩
      exact ⟨⟨⟨⟨⟨by rw [c2 (by omega)]; omega, by omega⟩, q3⟩, q4⟩, q5⟩, q6⟩
    · rintro ⟨⟨⟨⟨⟨q1, q2⟩, q3⟩, q4⟩, q5⟩, q6⟩
      rw [c2 (by omega)] at q1
      exact ⟨⟨by omega, by omega, q3, q4, q5⟩, q6⟩
  cases hv : validF f with
  | true => exact e.2 hv
  | false =>
    cases hq : (chk f 1 (fun _ => []) chk0).bad with
    | true => rfl
    | false => rw [e.1 hq] at hv; cases hv
end Go.Proofs.YtlpndgodkkndnaaDoor
namespace Go.Proofs.YtlpndgodkkndnaaDoor
open Go.RowKit Go.SX
set_option maxRecDepth 100000
set_option maxHeartbeats 4000000
set_option linter.unusedVariables false
set_option linter.unusedSimpArgs false
theorem shaped_not1 {f : GFml} (h : shapedP f = true) (h8 : f.Kind = 3) : f.Kids.length = 1 ∧ f.Vars.length = 0 := by
  simp only [shapedP, shp1, shp3, Bool.and_eq_true, decide_eq_true_eq] at h
  have h1 := h.1.1.1.1.1
  have h2 := h.1.1.1.1.2
  have h3 := h.2.1.2.1.2
  rw [h8] at h1 h2 h3
  simp [rulesP] at h1 h2 h3
  exact ⟨by omega, by rw [h3]; rfl⟩
def qk (k : Int) : Bool := k == 4 || k == 5 || k == 6 || k == 7
def oth (k : Int) : Int := if k ≤ 5 then 9 - k else 13 - k
mutual
def nnF : GFml → Bool → GFml
  | ⟨k, ar, nm, vars, args, kids⟩, nt =>
    bif k == 3 then nnH kids (!nt)
    else bif qk k then ⟨bif nt then oth k else k, ar, nm, vars, args, nnL kids nt⟩
    else bif nt then ⟨3, 0, empB, [], [], [⟨k, ar, nm, vars, args, nnL kids false⟩]⟩ else ⟨k, ar, nm, vars, args, nnL kids false⟩
def nnH : List GFml → Bool → GFml
  | [], _ => ⟨0, 0, empB, [], [], []⟩
  | x :: _, nt => nnF x nt
def nnL : List GFml → Bool → List GFml
  | [], _ => []
  | x :: l, nt => nnF x nt :: nnL l nt
end
theorem nnL_map (nt : Bool) : ∀ l : List GFml, nnL l nt = l.map fun x => nnF x nt
  | [] => by rw [nnL]; rfl
  | x :: l => by rw [nnL, nnL_map nt l]; rfl
mutual
theorem nn_nd : ∀ (f : GFml) (nt : Bool), ndF (nnF f nt) ≤ 2 * ndF f
  | ⟨k, ar, nm, vars, args, kids⟩, nt => by
    rw [nnF]
    cases k == 3 with
    | true => have := nn_ndH kids (!nt); rw [cond_true, ndF]; omega
    | false =>
      rw [cond_false]
      cases qk k with
      | true => have := nn_ndL kids nt; rw [cond_true, ndF, ndF]; omega
      | false =>
        have := nn_ndL kids false
        cases nt with
        | true => rw [cond_false, cond_true, ndF, ndFs, ndF, ndFs, ndF]; omega
        | false => rw [cond_false, cond_false, ndF, ndF]; omega
theorem nn_ndH : ∀ (l : List GFml) (nt : Bool), ndF (nnH l nt) ≤ 2 * ndFs l + 1
  | [], nt => by rw [nnH, ndF, ndFs]; omega
  | x :: l, nt => by have := nn_nd x nt; rw [nnH, ndFs]; omega
theorem nn_ndL : ∀ (l : List GFml) (nt : Bool), ndFs (nnL l nt) ≤ 2 * ndFs l
  | [], nt => by rw [nnL, ndFs]; omega
  | x :: l, nt => by
    have := nn_nd x nt
    have := nn_ndL l nt
    rw [nnL, ndFs, ndFs]; omega
end
theorem nnL_len (nt : Bool) (l : List GFml) : (nnL l nt).length = l.length := by rw [nnL_map, List.length_map]
theorem lenOk_nil {α : Type} (n : Nat) (bd : α → Prop) : lenOk n bd [] := ⟨by simp, by simp⟩
theorem iOk_small {k : Int} (h : -100 ≤ k ∧ k ≤ 100) : iOk k := by
  show (decide (IntKind.i64.min ≤ k) && decide (k ≤ IntKind.i64.max)) = true
  have h1 : IntKind.i64.min = -9223372036854775808 := rfl
  have h2 : IntKind.i64.max = 9223372036854775807 := rfl
  rw [h1, h2]
  simp only [Bool.and_eq_true, decide_eq_true_eq]; omega
mutual
theorem nn_ok : ∀ (f : GFml) (nt : Bool), f.Ok → (nnF f nt).Ok
  | ⟨k, ar, nm, vars, args, kids⟩, nt, h => by
    obtain ⟨⟨h1, h2, h3, h4, h5⟩, h6, h7⟩ := h
    have hE : strOk empB := by show (0 : Nat) ≤ _; omega
    rw [nnF]
    cases k == 3 with
    | true => rw [cond_true]; exact nn_okH kids (!nt) h7
    | false =>
      rw [cond_false]
      cases hq : qk k with
      | true =>
        rw [cond_true]
        refine .mk ⟨?_, h2, h3, h4, h5⟩ (by simp only [nnL_len]; exact h6) (nn_okL kids nt h7)
        cases nt with
        | false => exact h1
        | true =>
          simp only [qk, Bool.or_eq_true, beq_iff_eq] at hq
          refine iOk_small ?_
          simp only [oth, cond_true]
          split <;> omega
      | false =>
        have hk : GFml.Ok ⟨k, ar, nm, vars, args, nnL kids false⟩ := .mk ⟨h1, h2, h3, h4, h5⟩ (by simp only [nnL_len]; exact h6) (nn_okL kids false h7)
        cases nt with
        | false => exact hk
        | true =>
          exact .mk ⟨rfl, rfl, hE, lenOk_nil _ _, lenOk_nil _ _⟩ (by show 1 * 104 ≤ _; omega) (fun x hx => by rw [List.mem_singleton.1 hx]; exact hk)
theorem nn_okH : ∀ (l : List GFml) (nt : Bool), (∀ x ∈ l, x.Ok) → (nnH l nt).Ok
  | [], nt, h => .mk ⟨rfl, rfl, by show (0 : Nat) ≤ _; omega, lenOk_nil _ _, lenOk_nil _ _⟩ (by show 0 * 104 ≤ _; omega) (fun x hx => by cases hx)
  | x :: l, nt, h => by rw [nnH]; exact nn_ok x nt (h x (by simp))
theorem nn_okL : ∀ (l : List GFml) (nt : Bool), (∀ x ∈ l, x.Ok) → ∀ y ∈ nnL l nt, y.Ok
  | [], nt, h, y, hy => by rw [nnL] at hy; cases hy
  | x :: l, nt, h, y, hy => by
    rw [nnL] at hy
    rcases List.mem_cons.1 hy with rfl | hy
    · exact nn_ok x nt (h x (by simp))
    · exact nn_okL l nt (fun z hz => h z (by simp [hz])) y hy
end
theorem qk_oth {k : Int} (h : qk k = true) : qk (oth k) = true ∧ (oth k == 3) = false := by
  simp only [qk, Bool.or_eq_true, beq_iff_eq] at h
  have : k = 4 ∨ k = 5 ∨ k = 6 ∨ k = 7 := by omega
  rcases this with rfl | rfl | rfl | rfl <;> exact ⟨rfl, rfl⟩
mutual
theorem nn_nn : ∀ (f : GFml) (nt : Bool), nnF (nnF f nt) false = nnF f nt
  | ⟨k, ar, nm, vars, args, kids⟩, nt => by
    rw [nnF]
    cases k3 : k == 3 with
    | true => rw [cond_true]; exact nn_nnH kids (!nt)
    | false =>
      rw [cond_false]
      cases hq : qk k with
      | true =>
        rw [cond_true, nnF]
        have h := qk_oth hq
        cases nt with
        | true => rw [cond_true, h.1, h.2, cond_false, cond_true, cond_false, nn_nnL kids]
        | false => rw [cond_false, hq, k3, cond_false, cond_true, cond_false, nn_nnL kids]
      | false =>
        rw [cond_false]
        cases nt with
        | true =>
          rw [cond_true, nnF]
          have e3 : ((3 : Int) == 3) = true := rfl
          rw [e3, cond_true, nnH, Bool.not_false, nnF, k3, hq, cond_false, cond_false, cond_true, nn_nnL kids]
        | false => rw [cond_false, nnF, k3, hq, cond_false, cond_false, cond_false, nn_nnL kids]
theorem nn_nnH : ∀ (l : List GFml) (nt : Bool), nnF (nnH l nt) false = nnH l nt
  | [], nt => by rw [nnH, nnF]; rfl
  | x :: l, nt => by rw [nnH]; exact nn_nn x nt
theorem nn_nnL : ∀ (l : List GFml) (nt : Bool), nnL (nnL l nt) false = nnL l nt
  | [], nt => by rw [nnL, nnL]
  | x :: l, nt => by rw [nnL, nnL, nn_nn x nt, nn_nnL l nt]
end
mutual
theorem rk_ge : ∀ f : GFml, 0 ≤ rkF f
  | ⟨k, ar, nm, vars, args, kids⟩ => by have := rks_ge kids 0; rw [rkF]; omega
theorem rks_ge : ∀ (l : List GFml) (n : Int), n ≤ rkFs l n
  | [], n => by rw [rkFs]; omega
  | x :: l, n => by have := rks_ge l (max n (rkF x)); rw [rkFs]; omega
end
mutual
theorem nn_rk : ∀ (f : GFml) (nt : Bool), shsF f = true → rkF (nnF f nt) = rkF f
  | ⟨k, ar, nm, vars, args, kids⟩, nt, h => by
    rw [shsF, Bool.and_eq_true] at h
    rw [nnF]
    cases k3 : k == 3 with
    | true =>
      rw [cond_true]
      obtain ⟨h1, h2⟩ := shaped_not1 h.2 (by simpa using k3)
      simp only at h1 h2
      match kids, h1, h.1 with
      | [x], _, hs =>
        rw [shsFs, Bool.and_eq_true] at hs
        have := rk_ge x
        rw [nnH, nn_rk x _ hs.1, rkF, rkFs, rkFs, h2]
        omega
    | false =>
      rw [cond_false]
      cases hq : qk k with
      | true => rw [cond_true, rkF, rkF, nn_rkL kids nt 0 h.1]
      | false =>
        rw [cond_false]
        cases nt with
        | true =>
          have h0 := rks_ge (nnL kids false) 0
          have h1 : rkF ⟨k, ar, nm, vars, args, nnL kids false⟩ = rkF ⟨k, ar, nm, vars, args, kids⟩ := by rw [rkF, rkF, nn_rkL kids false 0 h.1]
          have h2 := rk_ge ⟨k, ar, nm, vars, args, nnL kids false⟩
          rw [cond_true, rkF, rkFs, rkFs, h1, List.length_nil]
          omega
        | false => rw [cond_false, rkF, rkF, nn_rkL kids false 0 h.1]
theorem nn_rkL : ∀ (l : List GFml) (nt : Bool) (n : Int), shsFs l = true → rkFs (nnL l nt) n = rkFs l n
  | [], nt, n, h => by rw [nnL]
  | x :: l, nt, n, h => by
    rw [shsFs, Bool.and_eq_true] at h
    rw [nnL, rkFs, rkFs, nn_rk x nt h.1, nn_rkL l nt _ h.2]
end
end Go.Proofs.YtlpndgodkkndnaaDoor
namespace Go.Proofs.YtlpndgodkkndnaaDoor
open Go.RowKit Go.SX
set_option maxRecDepth 100000
set_option maxHeartbeats 4000000
set_option linter.unusedVariables false
set_option linter.unusedSimpArgs false
def ckBox (s : CkS) (mb mf : Nat) : AV := .st [.int .i64 s.n, .int .i64 s.d, .map mb, .map mf, .bool s.bad]
def ckH (b mb mf : Nat) (s : CkS) (A : List (ByteArray × Stk)) (gA : MG) : AH := .box b (ckBox s mb mf) :: .map mb (kvW Stk.av A) gA :: .map mf (kvW iav s.F) s.gF :: rowsA A
theorem walk_defer (b mb mf rc rn : Nat) (s : CkS) (A : List (ByteArray × Stk)) (gA : MG) (nm : ByteArray) (t : Stk) (hl : lookA A nm = some t) (L : List Int) (a : Int) (ht : t.l = L ++ [a]) (hLb : L.length ≤ 1000000) :
    TriD Tryd.prog 86 [.ref rc 0, .ref rn 0] (.box rn (.str nm) :: .box rc (.ref b 0) :: ckH b mb mf s A gA) .returning
      (fun u' h => u' = .returning ∧ ∃ A', (∀ k, envA A' k = if k = nm then L else envA A k) ∧ h = .box rn (.str nm) :: .box rc (.ref b 0) :: ckH b mb mf s A' gA) := by
  obtain ⟨tb, tl, tt⟩ := t
  simp only at ht
  subst ht
  have hset : (gsetA A gA nm) = gA := by unfold gsetA; rw [hl]; rfl
  obtain ⟨j, hj1, hj2⟩ := setA_hit hl
  have hrows : rowsA (setA A nm ⟨tb, L, iav a :: tt⟩) = rowsA A := by
    rw [hj2, rowsA_set]
    have h := rowsA_get hj1
    have e : (⟨tb, L, iav a :: tt⟩ : Stk).row = (⟨tb, L ++ [a], tt⟩ : Stk).row := by simp [Stk.row]
    rw [e]
    obtain ⟨hlt, he⟩ := List.getElem?_eq_some_iff.1 h
    rw [← he, List.set_getElem_self]
  have hv : (⟨tb, L, iav a :: tt⟩ : Stk).av = .osl tb L.length (L.length + 1 + tt.length) := by simp [Stk.av]; omega
  have hc : ((L ++ [a]).map iav).length + tt.length = L.length + 1 + tt.length := by simp
  refine TriD.enter 22 Tryd.func86 rfl rfl rfl rfl fun Fr w0 => ?_
  repeat' (first | (refine AW.dl 0 20 ?_ <;> (first | refine AQ.p rfl AOp.la ?_ | refine AQ.p rfl (AOp.ll 0) ?_ | refine AQ.p rfl (AOp.ll 1) ?_ | refine AQ.p rfl (AOp.ll 2) ?_) <;> refine AQ.es 1 ?_ <;> (first | refine AQ.p rfl AOp.fa ?_ | refine AQ.p rfl (AOp.fr 2) ?_) <;> (first | refine AQ.p rfl AOp.la ?_ | refine AQ.p rfl (AOp.ll 0) ?_ | refine AQ.p rfl (AOp.ll 1) ?_ | refine AQ.p rfl (AOp.ll 2) ?_) <;> (first | refine AQ.p rfl AOp.la ?_ | refine AQ.p rfl (AOp.ll 0) ?_ | refine AQ.p rfl (AOp.ll 1) ?_ | refine AQ.p rfl (AOp.ll 2) ?_) <;> (first | refine AQ.p rfl AOp.la ?_ | refine AQ.p rfl (AOp.ll 0) ?_ | refine AQ.p rfl (AOp.ll 1) ?_ | refine AQ.p rfl (AOp.ll 2) ?_) <;> refine AQ.es 1 ?_ <;> (first | refine AQ.p rfl AOp.fa ?_ | refine AQ.p rfl (AOp.fr 2) ?_) <;> (first | refine AQ.p rfl AOp.la ?_ | refine AQ.p rfl (AOp.ll 0) ?_ | refine AQ.p rfl (AOp.ll 1) ?_ | refine AQ.p rfl (AOp.ll 2) ?_) <;> (first | refine AQ.p rfl AOp.la ?_ | refine AQ.p rfl (AOp.ll 0) ?_ | refine AQ.p rfl (AOp.ll 1) ?_ | refine AQ.p rfl (AOp.ll 2) ?_) <;> refine AQ.p rfl (AOp.lookS_hit (ok := false) 3 110 (g := Stk.av) hl rfl rfl rfl (by kernel_rfl)) ?_ <;> (first | refine AQ.p rfl AOp.la ?_ | refine AQ.p rfl (AOp.ll 0) ?_ | refine AQ.p rfl (AOp.ll 1) ?_ | refine AQ.p rfl (AOp.ll 2) ?_) <;> refine AQ.es 1 ?_ <;> (first | refine AQ.p rfl AOp.fa ?_ | refine AQ.p rfl (AOp.fr 2) ?_) <;> (first | refine AQ.p rfl AOp.la ?_ | refine AQ.p rfl (AOp.ll 0) ?_ | refine AQ.p rfl (AOp.ll 1) ?_ | refine AQ.p rfl (AOp.ll 2) ?_) <;> (first | refine AQ.p rfl AOp.la ?_ | refine AQ.p rfl (AOp.ll 0) ?_ | refine AQ.p rfl (AOp.ll 1) ?_ | refine AQ.p rfl (AOp.ll 2) ?_) <;> refine AQ.p rfl (AOp.lookS_hit (ok := false) 3 110 (g := Stk.av) hl rfl rfl rfl (by kernel_rfl)) ?_ <;> refine AQ.es 1 ?_ <;> (first | (refine AQ.p rfl (AOp.sub rfl rfl (by simp only [List.length_map, List.length_append, List.length_singleton]; omega)) ?_) | refine AQ.p rfl AOp.sb ?_) <;> refine AQ.p rfl (AOp.cut_osl (sz := 1) (h := L.length) (by kernel_rfl) rfl (bndIs.some (n := L.length) rfl (by simp)) (by simp; omega)) ?_ <;> refine AQ.nil ?_ <;> refine AL.setS 3 110 Stk.av (⟨tb, L, iav a :: tt⟩ : Stk) rfl rfl rfl (by rw [hv, ← hc]; rfl) (by kernel_rfl) ?_ <;> refine AL.nil ?_) | refine AW.jt ?_ | refine AW.jf ?_ | refine AW.jj (fun hb => ?_) (fun hb => ?_) | refine AW.go ?_ | fail)
  refine AW.donev rfl ⟨⟨_, rfl⟩, setA A nm ⟨tb, L, iav a :: tt⟩, fun k => ?_, ?_⟩
  · simp only [envA, look_setA]
    by_cases e : k = nm
    · rw [if_pos e, if_pos e]
    · rw [if_neg e, if_neg e]
  · show [_, _, _, _, _] ++ rowsA A = _
    unfold ckH
    rw [hrows, hset]
    rfl
end Go.Proofs.YtlpndgodkkndnaaDoor
namespace Go.Proofs.YtlpndgodkkndnaaDoor
open Go.RowKit Go.SX
set_option maxRecDepth 100000
set_option maxHeartbeats 4000000
set_option linter.unusedVariables false
set_option linter.unusedSimpArgs false
mutual
theorem chk_n : ∀ (f : GFml) (lv : Int) (env : ByteArray → List Int) (s : CkS), s.bad = false → s.n ≤ 4000 → s.n ≤ (chk f lv env s).n ∧ ((chk f lv env s).bad = false → (chk f lv env s).n ≤ 4000 ∧ shsF f = true)
  | ⟨k, ar, nm, vars, args, kids⟩, lv, env, s, hb, hn => by
    rw [chk, shsF]
    by_cases h0 : 4000 < s.n + 1 ∨ 60 < lv ∨ shapedP ⟨k, ar, nm, vars, args, kids⟩ = false
    · rw [if_pos h0]; exact ⟨by simp only; omega, fun h => by cases h⟩
    · rw [if_neg h0]
      have hs : shapedP ⟨k, ar, nm, vars, args, kids⟩ = true := by
        cases h : shapedP ⟨k, ar, nm, vars, args, kids⟩ with
        | true => rfl
        | false => exact (h0 (.inr (.inr h))).elim
      rw [hs]
      by_cases k0 : k = 0
      · obtain rfl : kids = [] := shaped_rel hs k0
        rw [if_pos k0, shsFs]
        split <;> exact ⟨by simp only; omega, fun h => ⟨by simp only; omega, rfl⟩⟩
      · rw [if_neg k0]
        have h := chkL_n kids (lv + 1) (bif bindsB ⟨k, ar, nm, vars, args, kids⟩ then pushE env nm (bindsN ⟨k, ar, nm, vars, args, kids⟩) else env) { s with n := s.n + 1, d := max s.d lv } hb (by simp only; omega)
        generalize chkL kids (lv + 1) (bif bindsB ⟨k, ar, nm, vars, args, kids⟩ then pushE env nm (bindsN ⟨k, ar, nm, vars, args, kids⟩) else env) { s with n := s.n + 1, d := max s.d lv } = r at *
        obtain ⟨h1, h2⟩ := h
        simp only at h1
        cases hr : r.bad with
        | true => rw [cond_true]; exact ⟨by omega, fun h => by rw [hr] at h; cases h⟩
        | false =>
          obtain ⟨h3, h4⟩ := h2 hr
          rw [cond_false]; exact ⟨by simp only; omega, fun _ => ⟨h3, by rw [h4]; rfl⟩⟩
theorem chkL_n : ∀ (l : List GFml) (lv : Int) (env : ByteArray → List Int) (s : CkS), s.bad = false → s.n ≤ 4000 → s.n ≤ (chkL l lv env s).n ∧ ((chkL l lv env s).bad = false → (chkL l lv env s).n ≤ 4000 ∧ shsFs l = true)
  | [], lv, env, s, hb, hn => by rw [chkL, shsFs]; exact ⟨Int.le_refl _, fun _ => ⟨hn, rfl⟩⟩
  | x :: l, lv, env, s, hb, hn => by
    rw [chkL, shsFs]
    obtain ⟨h1, h2⟩ := chk_n x lv env s hb hn
    cases hr : (chk x lv env s).bad with
    | true => rw [cond_true]; exact ⟨h1, fun h => by rw [hr] at h; cases h⟩
    | false =>
      obtain ⟨h3, h4⟩ := h2 hr
      obtain ⟨h5, h6⟩ := chkL_n l lv env (chk x lv env s) hr h3
      rw [cond_false]
      exact ⟨by omega, fun h => ⟨(h6 h).1, by rw [h4, (h6 h).2]; rfl⟩⟩
end
theorem perm_erase {α : Type} : ∀ {l : List α} {j : Nat} {x : α}, l[j]? = some x → l.Perm (x :: l.eraseIdx j)
  | [], j, x, h => by simp at h
  | y :: l, 0, x, h => by simp at h; subst h; exact List.Perm.refl _
  | y :: l, j + 1, x, h => by
    simp only [List.getElem?_cons_succ] at h
    exact ((perm_erase h).cons y).trans (.swap _ _ _)
theorem perm_set {α : Type} : ∀ {l : List α} {j : Nat} {x : α} (y : α), l[j]? = some x → (y :: l.eraseIdx j).Perm (l.set j y)
  | [], j, x, y, h => by simp at h
  | z :: l, 0, x, y, h => by simp
  | z :: l, j + 1, x, y, h => by
    simp only [List.getElem?_cons_succ] at h
    exact (List.Perm.swap _ _ _).trans ((perm_set y h).cons z)
theorem perm7 {a b x y z f : Own} {E S : AH} (h : (b :: E).Perm S) : (a :: b :: x :: y :: z :: f :: E).Perm (x :: y :: z :: a :: f :: S) :=
  (((List.perm_middle (l₁ := [x, y, z, f]) (l₂ := E) (a := b)).symm.cons a).trans (List.perm_middle (l₁ := [x, y, z]) (l₂ := f :: b :: E) (a := a)).symm).trans (((((h.cons f).cons a).cons z).cons y).cons x)
def fin (k : Int) (nm : ByteArray) (kids : List GFml) (r : CkS) : CkS := bif r.bad then r else { r with bad := k == 8 && !psH nm kids }
theorem chk_fin (k ar : Int) (nm : ByteArray) (vars args : List ByteArray) (kids : List GFml) (lv : Int) (env : ByteArray → List Int) (s : CkS) (h1 : s.n + 1 ≤ 4000) (h2 : lv ≤ 60) (h3 : shapedP ⟨k, ar, nm, vars, args, kids⟩ = true) (k0 : ¬ k = 0) :
    chk ⟨k, ar, nm, vars, args, kids⟩ lv env s = fin k nm kids (chkL kids (lv + 1) (bif bindsB ⟨k, ar, nm, vars, args, kids⟩ then pushE env nm (bindsN ⟨k, ar, nm, vars, args, kids⟩) else env) { s with n := s.n + 1, d := max s.d lv }) := by
  rw [chk, if_neg (by rw [h3]; rintro (h | h | h) <;> first | omega | cases h), if_neg k0]
  rfl
end Go.Proofs.YtlpndgodkkndnaaDoor
namespace Go.Proofs.YtlpndgodkkndnaaDoor
open Go.RowKit Go.SX
set_option maxRecDepth 100000
set_option maxHeartbeats 4000000
set_option linter.unusedVariables false
set_option linter.unusedSimpArgs false
def CkPost (b mb mf : Nat) (env : ByteArray → List Int) (r : CkS) (x : AEnd) (h : AH) : Prop := x = .ret (.tup []) ∧ ∃ A' gA', (∀ k, envA A' k = env k) ∧ h = ckH b mb mf r A' gA'
theorem chk_walk : ∀ (N : Nat) (f : GFml) (lv : Int) (A : List (ByteArray × Stk)) (gA : MG) (s : CkS) (b mb mf : Nat), ndF f ≤ N → f.Ok → 0 ≤ lv → lv ≤ 61 → s.bad = false → 0 ≤ s.n → s.n ≤ 4000 → (∀ k, ((envA A k).length : Int) ≤ lv) →
    Tri Tryd.prog 60 [.ref b 0, f.st, .int .i64 lv] (ckH b mb mf s A gA) (CkPost b mb mf (envA A) (chk f lv (envA A) s)) := by
  intro N
  induction N using Nat.strongRecOn with
  | _ N ih =>
    intro f lv A gA s b mb mf hN ho hlv0 hlv hbad hn0 hn1 hlen
    have hnd := ndF_eq f
    have hB := f_binds f
    have hS := f_shaped f ho
    obtain ⟨⟨_, _, _, q4, q5⟩, q6, q7⟩ := ho
    have l5 := q5.1
    obtain ⟨n, d, bad, F, gF⟩ := s
    simp only at hbad hn0 hn1
    subst hbad
    have hfin := chk_fin f.Kind f.Arity f.Name f.Vars f.Args f.Kids lv (envA A) ⟨n, d, false, F, gF⟩
    obtain ⟨k, ar, nm, vars, args, kids⟩ := f
    simp only at *
    generalize hR : chk ⟨k, ar, nm, vars, args, kids⟩ lv (envA A) ⟨n, d, false, F, gF⟩ = R at *
    rw [chk] at hR
    simp only at hR
    simp only [ckH, ckBox]
    refine Tri.enterD 162 Tryd.func60 rfl rfl rfl rfl fun Fr w0 => ?_
    repeat' (first | (refine AW.r 0 ?_ <;> (first | refine AL.box (v := .ref b 0) rfl rfl rfl fun rc => ?_ | refine AL.d (AOp.box_ro (v := .st [.int .i64 k, .int .i64 ar, .str nm, strs vars, strs args, .sl (kids.map GFml.av)]) rfl rfl) ?_) <;> (first | refine AL.box (v := .ref b 0) rfl rfl rfl fun rc => ?_ | refine AL.d (AOp.box_ro (v := .st [.int .i64 k, .int .i64 ar, .str nm, strs vars, strs args, .sl (kids.map GFml.av)]) rfl rfl) ?_) <;> refine AL.nil ?_) | (refine AW.r 1 ?_ <;> (first | refine AL.d AOp.la ?_ | refine AL.d (AOp.ll 0) ?_ | refine AL.d (AOp.ll 1) ?_) <;> refine AL.es 1 ?_ <;> (first | refine AL.d AOp.fa ?_ | refine AL.d (AOp.fr 0) ?_) <;> (first | refine AL.d AOp.la ?_ | refine AL.d (AOp.ll 0) ?_ | refine AL.d (AOp.ll 1) ?_) <;> refine AL.d AOp.ad ?_ <;> refine AL.es 1 ?_ <;> (first | refine AL.d AOp.fa ?_ | refine AL.d (AOp.fr 0) ?_) <;> (first | refine AL.sl 0 ?_ | refine AL.sl 1 ?_) <;> refine AL.nil ?_) | (refine AW.dl 2 9 ?_ <;> (first | refine AQ.p rfl AOp.la ?_ | refine AQ.p rfl (AOp.ll 0) ?_ | refine AQ.p rfl (AOp.ll 1) ?_) <;> (first | refine AQ.p rfl AOp.la ?_ | refine AQ.p rfl (AOp.ll 0) ?_ | refine AQ.p rfl (AOp.ll 1) ?_) <;> refine AQ.es 1 ?_ <;> (first | refine AQ.p rfl AOp.fa ?_ | refine AQ.p rfl (AOp.fr 1) ?_) <;> (first | refine AQ.p rfl AOp.la ?_ | refine AQ.p rfl (AOp.ll 0) ?_ | refine AQ.p rfl (AOp.ll 1) ?_) <;> refine AQ.es 1 ?_ <;> refine AQ.p rfl (AOp.max2 rfl rfl) ?_ <;> refine AQ.es 1 ?_ <;> (first | refine AQ.p rfl AOp.fa ?_ | refine AQ.p rfl (AOp.fr 1) ?_) <;> refine AQ.nil ?_ <;> (first | refine AL.sl 0 ?_ | refine AL.sl 1 ?_) <;> refine AL.nil ?_) | refine AW.jt ?_ | refine AW.jf ?_ | refine AW.jj (fun hb => ?_) (fun hb => ?_) | refine AW.go ?_ | fail)
    refine AW.cut (fun af ah => ∃ v : Bool, af = [(2, .int .i64 lv), (3, .ref rc 0), (4, .at (.st [.int .i64 k, .int .i64 ar, .str nm, strs vars, strs args, .sl (kids.map GFml.av)])), (43, .bool v)] ∧ ah = .box rc (.ref b 0) :: ckH b mb mf ⟨n + 1, max d lv, false, F, gF⟩ A gA ∧ (v = true ↔ (4000 < n + 1 ∨ 60 < lv ∨ shapedP ⟨k, ar, nm, vars, args, kids⟩ = false))) ?_ ?_
    · repeat' (first | (refine AW.r 3 ?_ <;> (first | refine AL.d AOp.la ?_ | refine AL.d (AOp.ll 0) ?_ | refine AL.d (AOp.ll 1) ?_) <;> refine AL.es 1 ?_ <;> (first | refine AL.d AOp.fa ?_ | refine AL.d (AOp.fr 0) ?_) <;> (first | refine AL.d AOp.la ?_ | refine AL.d (AOp.ll 0) ?_ | refine AL.d (AOp.ll 1) ?_) <;> refine AL.es 2 ?_ <;> (first | refine AL.es 4 ?_ | (refine AL.gx (fun hb => ?_) (fun hb => ?_) <;> refine AL.es 4 ?_)) <;> (first | (refine AL.gd ?_; (first | refine AL.d AOp.la ?_ | refine AL.d (AOp.lw 0) ?_ | refine AL.d (AOp.lw 1) ?_)) | refine AL.gs ?_ | refine AL.gu ?_ | (refine AL.gx (fun hb => ?_) (fun hb => ?_) <;> first | (refine AL.gd ?_; (first | refine AL.d AOp.la ?_ | refine AL.d (AOp.lw 0) ?_ | refine AL.d (AOp.lw 1) ?_)) | refine AL.gs ?_)) <;> (first | (refine AL.gd ?_; refine AL.d (AOp.call rfl rfl (hS.pure _)) ?_) | refine AL.gs ?_ | refine AL.gu ?_) <;> refine AL.es 2 ?_ <;> refine AL.nil ?_) | refine AW.jt ?_ | refine AW.jf ?_ | refine AW.jj (fun hb => ?_) (fun hb => ?_) | refine AW.go ?_ | fail)
      all_goals refine AW.meet [2, 3, 4, 43] ⟨_, rfl, rfl, ?_⟩
      all_goals simp only [decide_eq_true_eq, decide_eq_false_iff_not] at *
      all_goals first
        | (simp; omega)
        | (rw [Bool.not_eq_true']; exact ⟨fun h => .inr (.inr h), fun h => by rcases h with h | h | h <;> first | omega | exact h⟩)
    rintro af ah ⟨v, rfl, rfl, hv⟩
    cases v with
    | true =>
      repeat' (first | (refine AW.r 4 ?_ <;> (first | refine AL.d AOp.la ?_ | refine AL.d (AOp.ll 0) ?_ | refine AL.d (AOp.ll 1) ?_) <;> refine AL.es 1 ?_ <;> (first | refine AL.d AOp.fa ?_ | refine AL.d (AOp.fr 4) ?_) <;> (first | refine AL.sl 0 ?_ | refine AL.sl 1 ?_) <;> refine AL.nil ?_) | (refine AW.r 5 ?_ <;> (first | refine AL.d AOp.la ?_ | refine AL.d (AOp.ll 0) ?_ | refine AL.d (AOp.ll 1) ?_) <;> refine AL.es 1 ?_ <;> (first | refine AL.d AOp.fa ?_ | refine AL.d (AOp.fr 4) ?_) <;> (first | refine AL.d AOp.la ?_ | refine AL.d (AOp.ll 0) ?_ | refine AL.d (AOp.ll 1) ?_) <;> refine AL.nil ?_) | refine AW.jt ?_ | refine AW.jf ?_ | refine AW.jj (fun hb => ?_) (fun hb => ?_) | refine AW.go ?_ | fail)
      refine AW.drop (List.sublist_cons_self _ _) ?_
      refine AW.retD0 .nil ⟨rfl, A, gA, fun _ => rfl, ?_⟩
      rw [if_pos (hv.1 rfl)] at hR
      rw [← hR]
      rfl
    | false =>
    have hv0 : ¬ (4000 < n + 1 ∨ 60 < lv ∨ shapedP ⟨k, ar, nm, vars, args, kids⟩ = false) := fun h => by have := hv.2 h; cases this
    rw [if_neg hv0] at hR
    have hsh : shapedP ⟨k, ar, nm, vars, args, kids⟩ = true := by
      cases h : shapedP ⟨k, ar, nm, vars, args, kids⟩ with
      | true => rfl
      | false => exact (hv0 (.inr (.inr h))).elim
    have hn2 : n + 1 ≤ 4000 := by omega
    have hlv2 : lv ≤ 60 := by omega
    clear hv hv0 hS
    repeat' (first | (refine AW.r 5 ?_ <;> (first | refine AL.d AOp.la ?_ | refine AL.d (AOp.ll 0) ?_ | refine AL.d (AOp.ll 1) ?_) <;> refine AL.es 1 ?_ <;> (first | refine AL.d AOp.fa ?_ | refine AL.d (AOp.fr 4) ?_) <;> (first | refine AL.d AOp.la ?_ | refine AL.d (AOp.ll 0) ?_ | refine AL.d (AOp.ll 1) ?_) <;> refine AL.nil ?_) | refine AW.jt ?_ | refine AW.jf ?_ | refine AW.jj (fun hb => ?_) (fun hb => ?_) | fail)
    refine AW.skip (AW.seq ?_)
    generalize hE2 : (bif bindsB ⟨k, ar, nm, vars, args, kids⟩ then pushE (envA A) nm (bindsN ⟨k, ar, nm, vars, args, kids⟩) else envA A) = env2 at *
    refine AW.cut (fun af ah => ∃ s2 : CkS, af = [(2, .int .i64 lv), (3, .ref rc 0), (4, .at (.st [.int .i64 k, .int .i64 ar, .str nm, strs vars, strs args, .sl (kids.map GFml.av)]))] ∧ ah = .box rc (.ref b 0) :: ckH b mb mf s2 A gA ∧ 0 ≤ s2.n ∧ s2.n ≤ 4000 ∧ (s2.bad = false ∨ (kids = [] ∧ k = 0)) ∧ R = fin k nm kids (chkL kids (lv + 1) env2 s2)) ?_ ?_
    · repeat' (first | (refine AW.r 6 ?_ <;> (first | refine AL.d AOp.fa ?_ | refine AL.d (AOp.fr 0) ?_) <;> (first | refine AL.d AOp.la ?_ | refine AL.d (AOp.ll 0) ?_ | refine AL.d (AOp.ll 1) ?_) <;> refine AL.es 1 ?_ <;> refine AL.nil ?_) | refine AW.jt ?_ | refine AW.jf ?_ | refine AW.jj (fun hb => ?_) (fun hb => ?_) | fail)
      · have k0 : k = 0 := by simpa using hb
        obtain rfl : kids = [] := shaped_rel hsh k0
        rw [if_pos k0] at hR
        have hmeet : ∀ s2 : CkS, R = s2 → R = fin k nm [] (chkL [] (lv + 1) env2 s2) := fun s2 h => by
          rw [chkL, h, fin]
          cases hb2 : s2.bad with
          | true => rfl
          | false =>
            obtain ⟨u1, u2, u3, u4, u5⟩ := s2
            simp only at hb2
            subst hb2
            rw [k0]
            rfl
        refine AW.seq ?_
        refine AW.cut (fun af ah => af = [(2, .int .i64 lv), (3, .ref rc 0), (4, .at (.st [.int .i64 k, .int .i64 ar, .str nm, strs vars, strs args, .sl (([] : List GFml).map GFml.av)]))] ∧ ah = .box rc (.ref b 0) :: ckH b mb mf ⟨n + 1, max d lv, false, F, gF⟩ A gA ∧ envA A nm = []) ?_ ?_
        · cases hL : lookA A nm with
          | none =>
            repeat' (first | (refine AW.dq 7 ?_ <;> (first | refine AQ.p rfl AOp.la ?_ | refine AQ.p rfl (AOp.ll 0) ?_ | refine AQ.p rfl (AOp.ll 1) ?_) <;> refine AQ.es 1 ?_ <;> (first | refine AQ.p rfl AOp.fa ?_ | refine AQ.p rfl (AOp.fr 2) ?_) <;> (first | refine AQ.p rfl AOp.la ?_ | refine AQ.p rfl (AOp.ll 0) ?_ | refine AQ.p rfl (AOp.ll 1) ?_) <;> (first | refine AQ.p rfl AOp.fa ?_ | refine AQ.p rfl (AOp.fr 2) ?_) <;> (first | refine AQ.p rfl AOp.la ?_ | refine AQ.p rfl (AOp.ll 0) ?_ | refine AQ.p rfl (AOp.ll 1) ?_) <;> refine AQ.p rfl (AOp.lookS_miss 2 110 (.slice none 0 0) (ok := false) hL rfl rfl rfl (by kernel_rfl) (by kernel_rfl)) ?_ <;> refine AQ.es 1 ?_ <;> refine AQ.nil ?_) | (refine AW.r 8 ?_ <;> refine AL.es 1 ?_ <;> (first | refine AL.d (AOp.len_nil (by kernel_rfl) rfl) ?_ | refine AL.d AOp.ln ?_) <;> refine AL.es 1 ?_ <;> refine AL.nil ?_) | refine AW.jt ?_ | refine AW.jf ?_ | refine AW.jj (fun hb => ?_) (fun hb => ?_) | refine AW.go ?_ | fail)
            all_goals try (exfalso; simp only [decide_eq_true_eq, decide_eq_false_iff_not] at *; omega)
            exact AW.meet [2, 3, 4] ⟨rfl, rfl, by simp only [envA, hL]⟩
          | some t =>
            obtain ⟨tb, tl, tt⟩ := t
            obtain ⟨j, hj1, hj2⟩ := setA_hit hL
            have henv : envA A nm = tl := by simp only [envA, hL]
            have htl := hlen nm
            rw [henv] at htl
            repeat' (first | (refine AW.dq 7 ?_ <;> (first | refine AQ.p rfl AOp.la ?_ | refine AQ.p rfl (AOp.ll 0) ?_ | refine AQ.p rfl (AOp.ll 1) ?_) <;> refine AQ.es 1 ?_ <;> (first | refine AQ.p rfl AOp.fa ?_ | refine AQ.p rfl (AOp.fr 2) ?_) <;> (first | refine AQ.p rfl AOp.la ?_ | refine AQ.p rfl (AOp.ll 0) ?_ | refine AQ.p rfl (AOp.ll 1) ?_) <;> (first | refine AQ.p rfl AOp.fa ?_ | refine AQ.p rfl (AOp.fr 2) ?_) <;> (first | refine AQ.p rfl AOp.la ?_ | refine AQ.p rfl (AOp.ll 0) ?_ | refine AQ.p rfl (AOp.ll 1) ?_) <;> refine AQ.p rfl (AOp.lookS_hit 2 110 (g := Stk.av) (ok := false) hL rfl rfl rfl (by kernel_rfl)) ?_ <;> refine AQ.es 1 ?_ <;> refine AQ.nil ?_) | (refine AW.r 8 ?_ <;> refine AL.es 1 ?_ <;> (first | refine AL.d (AOp.len (v := Stk.av ⟨tb, tl, tt⟩) rfl rfl (by kernel_rfl)) ?_ | refine AL.d AOp.ln ?_) <;> refine AL.es 1 ?_ <;> refine AL.nil ?_) | refine AW.jt ?_ | refine AW.jf ?_ | refine AW.jj (fun hb => ?_) (fun hb => ?_) | refine AW.go ?_ | fail)
            · have hpos : 0 < tl.length := by simpa using hb
              rw [henv] at hR
              obtain ⟨L, a, rfl⟩ : ∃ L a, tl = L ++ [a] := ⟨tl.dropLast, tl.getLast (by intro h; rw [h] at hpos; simp at hpos), (List.dropLast_concat_getLast _).symm⟩
              have hrow : ∀ x0 x1 x2 x3 : Own, (x0 :: x1 :: x2 :: x3 :: rowsA A)[j + 4]? = some (.row tb ((L ++ [a]).map iav ++ tt)) := fun x0 x1 x2 x3 => rowsA_get hj1
              have hcell : ((L ++ [a]).map iav ++ tt)[((((L ++ [a]).map iav).length : Int) - 1).toNat]? = some (iav a) := by
                have e : ((((L ++ [a]).map iav).length : Int) - 1).toNat = L.length := by simp
                rw [e, List.map_append, List.append_assoc, List.getElem?_append_right (by simp)]
                simp
              rw [List.getLast?_append, List.getLast?_singleton] at hR
              repeat' (first | (refine AW.dl 9 13 ?_ <;> (first | refine AQ.p rfl (AOp.load_cell (j + 4) rfl (hrow _ _ _ _) hcell rfl (by kernel_rfl)) ?_ | refine AQ.p rfl AOp.la ?_ | refine AQ.p rfl (AOp.ll 0) ?_ | refine AQ.p rfl (AOp.ll 1) ?_) <;> refine AQ.es 3 ?_ <;> (first | (refine AQ.p rfl (AOp.sub rfl rfl (by simp only [List.length_map]; omega)) ?_) | refine AQ.p rfl AOp.sb ?_) <;> refine AQ.p rfl (AOp.index_osl rfl rfl (by simp only [List.length_map]; omega) (by simp only [List.length_map]; omega) (by kernel_rfl)) ?_ <;> (first | refine AQ.p rfl (AOp.load_cell (j + 4) rfl (hrow _ _ _ _) hcell rfl (by kernel_rfl)) ?_ | refine AQ.p rfl AOp.la ?_ | refine AQ.p rfl (AOp.ll 0) ?_ | refine AQ.p rfl (AOp.ll 1) ?_) <;> (first | refine AQ.p rfl AOp.fa ?_ | refine AQ.p rfl (AOp.fr 4) ?_) <;> (first | refine AQ.p rfl (AOp.load_cell (j + 4) rfl (hrow _ _ _ _) hcell rfl (by kernel_rfl)) ?_ | refine AQ.p rfl AOp.la ?_ | refine AQ.p rfl (AOp.ll 0) ?_ | refine AQ.p rfl (AOp.ll 1) ?_) <;> refine AQ.es 3 ?_ <;> (first | refine AQ.p rfl AOp.fa ?_ | refine AQ.p rfl (AOp.fr 4) ?_) <;> refine AQ.nil ?_ <;> (first | refine AL.sl 0 ?_ | refine AL.sl 1 ?_) <;> refine AL.nil ?_) | refine AW.jt ?_ | refine AW.jf ?_ | refine AW.jj (fun hb => ?_) (fun hb => ?_) | refine AW.go ?_ | fail)
              refine AW.drop (List.sublist_cons_self _ _) ?_
              refine AW.retD0 .nil ⟨rfl, A, gA, fun _ => rfl, ?_⟩
              rw [← hR]
              simp only [List.length_map]
              rfl
            · have hnil : tl = [] := by
                have : ¬ 0 < tl.length := by simpa using hb
                exact List.eq_nil_of_length_eq_zero (by omega)
              exact AW.meet [2, 3, 4] ⟨rfl, rfl, by rw [henv, hnil]⟩
        rintro af ah ⟨rfl, rfl, henv⟩
        rw [henv] at hR
        simp only [List.getLast?_nil] at hR
        cases hF : lookA F nm with
        | none =>
          rw [hF] at hR
          repeat' (first | (refine AW.dq 10 ?_ <;> (first | refine AQ.p rfl AOp.la ?_ | refine AQ.p rfl (AOp.ll 0) ?_ | refine AQ.p rfl (AOp.ll 1) ?_) <;> refine AQ.es 1 ?_ <;> (first | refine AQ.p rfl AOp.fa ?_ | refine AQ.p rfl (AOp.fr 3) ?_) <;> (first | refine AQ.p rfl AOp.la ?_ | refine AQ.p rfl (AOp.ll 0) ?_ | refine AQ.p rfl (AOp.ll 1) ?_) <;> (first | refine AQ.p rfl AOp.fa ?_ | refine AQ.p rfl (AOp.fr 2) ?_) <;> (first | refine AQ.p rfl AOp.la ?_ | refine AQ.p rfl (AOp.ll 0) ?_ | refine AQ.p rfl (AOp.ll 1) ?_) <;> refine AQ.p rfl (AOp.lookS_miss 3 3 (.int .i64 0) (ok := true) hF rfl rfl rfl (by kernel_rfl) (by kernel_rfl)) ?_ <;> refine AQ.es 5 ?_ <;> refine AQ.nil ?_) | (refine AW.r 11 ?_ <;> refine AL.es 2 ?_ <;> (first | refine AL.es 1 ?_ | (refine AL.gx (fun hb => ?_) (fun hb => ?_) <;> refine AL.es 1 ?_)) <;> (first | (refine AL.gd ?_; (first | refine AL.d AOp.fa ?_ | refine AL.d (AOp.fr 4) ?_)) | refine AL.gs ?_ | refine AL.gu ?_) <;> (first | (refine AL.gd ?_; (first | refine AL.d AOp.la ?_ | refine AL.d (AOp.ll 0) ?_ | refine AL.d (AOp.ll 1) ?_)) | refine AL.gs ?_ | refine AL.gu ?_) <;> refine AL.es 3 ?_ <;> refine AL.nil ?_) | (refine AW.dl 13 9 ?_ <;> (first | refine AQ.p rfl AOp.la ?_ | refine AQ.p rfl (AOp.ll 0) ?_ | refine AQ.p rfl (AOp.ll 1) ?_) <;> refine AQ.es 1 ?_ <;> (first | refine AQ.p rfl AOp.fa ?_ | refine AQ.p rfl (AOp.fr 3) ?_) <;> (first | refine AQ.p rfl AOp.la ?_ | refine AQ.p rfl (AOp.ll 0) ?_ | refine AQ.p rfl (AOp.ll 1) ?_) <;> (first | refine AQ.p rfl AOp.fa ?_ | refine AQ.p rfl (AOp.fr 2) ?_) <;> (first | refine AQ.p rfl AOp.la ?_ | refine AQ.p rfl (AOp.ll 0) ?_ | refine AQ.p rfl (AOp.ll 1) ?_) <;> (first | refine AQ.p rfl AOp.fa ?_ | refine AQ.p rfl (AOp.fr 4) ?_) <;> (first | refine AQ.p rfl AOp.la ?_ | refine AQ.p rfl (AOp.ll 0) ?_ | refine AQ.p rfl (AOp.ll 1) ?_) <;> refine AQ.es 1 ?_ <;> refine AQ.nil ?_ <;> refine AL.setS 3 3 iav (args.length : Int) rfl rfl rfl (by simp only [aeval, get_cons, List.length_map]; rfl) (by kernel_rfl) ?_ <;> refine AL.nil ?_) | refine AW.jt ?_ | refine AW.jf ?_ | refine AW.jj (fun hb => ?_) (fun hb => ?_) | refine AW.go ?_ | fail)
          exact AW.meet [2, 3, 4] ⟨⟨n + 1, max d lv, false, setA F nm args.length, gsetA F gF nm⟩, rfl, rfl, by simp only; omega, hn2, .inl rfl, hmeet _ hR.symm⟩
        | some a =>
          rw [hF] at hR
          repeat' (first | (refine AW.dq 10 ?_ <;> (first | refine AQ.p rfl AOp.la ?_ | refine AQ.p rfl (AOp.ll 0) ?_ | refine AQ.p rfl (AOp.ll 1) ?_) <;> refine AQ.es 1 ?_ <;> (first | refine AQ.p rfl AOp.fa ?_ | refine AQ.p rfl (AOp.fr 3) ?_) <;> (first | refine AQ.p rfl AOp.la ?_ | refine AQ.p rfl (AOp.ll 0) ?_ | refine AQ.p rfl (AOp.ll 1) ?_) <;> (first | refine AQ.p rfl AOp.fa ?_ | refine AQ.p rfl (AOp.fr 2) ?_) <;> (first | refine AQ.p rfl AOp.la ?_ | refine AQ.p rfl (AOp.ll 0) ?_ | refine AQ.p rfl (AOp.ll 1) ?_) <;> refine AQ.p rfl (AOp.lookS_hit 3 3 (g := iav) (ok := true) hF rfl rfl rfl (by kernel_rfl)) ?_ <;> refine AQ.es 5 ?_ <;> refine AQ.nil ?_) | (refine AW.r 11 ?_ <;> refine AL.es 2 ?_ <;> (first | refine AL.es 1 ?_ | (refine AL.gx (fun hb => ?_) (fun hb => ?_) <;> refine AL.es 1 ?_)) <;> (first | (refine AL.gd ?_; (first | refine AL.d AOp.fa ?_ | refine AL.d (AOp.fr 4) ?_)) | refine AL.gs ?_ | refine AL.gu ?_) <;> (first | (refine AL.gd ?_; (first | refine AL.d AOp.la ?_ | refine AL.d (AOp.ll 0) ?_ | refine AL.d (AOp.ll 1) ?_)) | refine AL.gs ?_ | refine AL.gu ?_) <;> refine AL.es 3 ?_ <;> refine AL.nil ?_) | (refine AW.r 12 ?_ <;> (first | refine AL.d AOp.la ?_ | refine AL.d (AOp.ll 0) ?_ | refine AL.d (AOp.ll 1) ?_) <;> refine AL.es 1 ?_ <;> (first | refine AL.d AOp.fa ?_ | refine AL.d (AOp.fr 4) ?_) <;> (first | refine AL.sl 0 ?_ | refine AL.sl 1 ?_) <;> refine AL.nil ?_) | (refine AW.dl 13 9 ?_ <;> (first | refine AQ.p rfl AOp.la ?_ | refine AQ.p rfl (AOp.ll 0) ?_ | refine AQ.p rfl (AOp.ll 1) ?_) <;> refine AQ.es 1 ?_ <;> (first | refine AQ.p rfl AOp.fa ?_ | refine AQ.p rfl (AOp.fr 3) ?_) <;> (first | refine AQ.p rfl AOp.la ?_ | refine AQ.p rfl (AOp.ll 0) ?_ | refine AQ.p rfl (AOp.ll 1) ?_) <;> (first | refine AQ.p rfl AOp.fa ?_ | refine AQ.p rfl (AOp.fr 2) ?_) <;> (first | refine AQ.p rfl AOp.la ?_ | refine AQ.p rfl (AOp.ll 0) ?_ | refine AQ.p rfl (AOp.ll 1) ?_) <;> (first | refine AQ.p rfl AOp.fa ?_ | refine AQ.p rfl (AOp.fr 4) ?_) <;> (first | refine AQ.p rfl AOp.la ?_ | refine AQ.p rfl (AOp.ll 0) ?_ | refine AQ.p rfl (AOp.ll 1) ?_) <;> refine AQ.es 1 ?_ <;> refine AQ.nil ?_ <;> refine AL.setS 3 3 iav (args.length : Int) rfl rfl rfl (by simp only [aeval, get_cons, List.length_map]; rfl) (by kernel_rfl) ?_ <;> refine AL.nil ?_) | refine AW.jt ?_ | refine AW.jf ?_ | refine AW.jj (fun hb => ?_) (fun hb => ?_) | refine AW.go ?_ | fail)
          all_goals (simp only [List.length_map] at hb; simp only [hb] at hR)
          · exact AW.meet [2, 3, 4] ⟨⟨n + 1, max d lv, true, setA F nm args.length, gsetA F gF nm⟩, rfl, rfl, by simp only; omega, hn2, .inr ⟨rfl, k0⟩, hmeet _ hR.symm⟩
          · exact AW.meet [2, 3, 4] ⟨⟨n + 1, max d lv, false, setA F nm args.length, gsetA F gF nm⟩, rfl, rfl, by simp only; omega, hn2, .inl rfl, hmeet _ hR.symm⟩
      · have k0 : ¬ k = 0 := by simpa using hb
        rw [if_neg k0] at hR
        refine AW.skip ?_
        exact AW.meet [2, 3, 4] ⟨_, rfl, rfl, by simp only; omega, hn2, .inl rfl, hR.symm⟩
    rintro af ah ⟨s2, rfl, rfl, hs0, hs1, hsb, hRf⟩
    clear hR hfin
    unfold bindsS at hB
    repeat' (first | (refine AW.r 14 ?_ <;> (first | refine AL.d AOp.la ?_ | refine AL.d (AOp.lw 0) ?_) <;> refine AL.d (AOp.call rfl rfl (hB.pure _)) ?_ <;> refine AL.es 4 ?_ <;> refine AL.alloc_z (t := 9) (.str empB) (by kernel_rfl) rfl rfl fun r9 => ?_ <;> refine AL.sl 0 ?_ <;> refine AL.es 2 ?_ <;> refine AL.nil ?_) | refine AW.jt ?_ | refine AW.jf ?_ | refine AW.jj (fun hb => ?_) (fun hb => ?_) | fail)
    refine AW.prune [2, 3, 4, 9, 10, 11] ?_
    generalize hbn : bindsN ⟨k, ar, nm, vars, args, kids⟩ = bn at *
    cases hBb : bindsB ⟨k, ar, nm, vars, args, kids⟩ with
    | false =>
      rw [hBb, cond_false] at hE2
      refine AW.frame_eq (af' := [(2, .int .i64 lv), (3, .ref rc 0), (4, .at (.st [.int .i64 k, .int .i64 ar, .str nm, strs vars, strs args, .sl (kids.map GFml.av)])), (9, .ref r9 0), (10, .int .i64 bn), (11, .bool false)]) (ah' := .box r9 (.str empB) :: .box rc (.ref b 0) :: ckH b mb mf s2 A gA) rfl rfl ?_
      have hret : ∀ (R0 : Rg) (s3 : CkS) (A3 : List (ByteArray × Stk)) (g3 : MG), (∀ x, envA A3 x = env2 x) → R = s3 → ∀ ks af, AW (CofD Tryd.prog Tryd.f60 162 Fr R0 w0 (CkPost b mb mf (envA A) R)) [] (.c .ret :: ks) af (.box r9 (.str empB) :: .box rc (.ref b 0) :: ckH b mb mf s3 A3 g3) := by
        intro R0 s3 A3 g3 h1 h2 ks af
        refine AW.drop ((List.sublist_cons_self _ _).trans (List.sublist_cons_self _ _)) ?_
        exact AW.retD0 .nil ⟨rfl, A3, g3, fun x => by rw [h1, ← hE2], by rw [h2]⟩
      have hdone : ∀ (R0 : Rg) (s3 : CkS) (A3 : List (ByteArray × Stk)) (g3 : MG), (∀ x, envA A3 x = env2 x) → R = s3 → ∀ af, AW (CofD Tryd.prog Tryd.f60 162 Fr R0 w0 (CkPost b mb mf (envA A) R)) [] [] af (.box r9 (.str empB) :: .box rc (.ref b 0) :: ckH b mb mf s3 A3 g3) := by
        intro R0 s3 A3 g3 h1 h2 af
        refine AW.drop ((List.sublist_cons_self _ _).trans (List.sublist_cons_self _ _)) ?_
        exact AW.doneD0 .nil ⟨rfl, A3, g3, fun x => by rw [h1, ← hE2], by rw [h2]⟩
      have hA2 : ∀ x, envA A x = env2 x := fun x => by rw [hE2]
      have hlen2 : ∀ x, ((env2 x).length : Int) ≤ lv + 1 := fun x => by have := hlen x; rw [← hE2]; omega
      repeat' (first | refine AW.re 15 1 ?_ | refine AW.jt ?_ | refine AW.jf ?_ | refine AW.jj (fun hb => ?_) (fun hb => ?_) | fail)
      refine AW.skip ?_
      clear hBb hB
      refine AW.prune [2, 3, 4, 9] ?_
      repeat' (first | refine AW.re 18 4 ?_ | refine AW.jt ?_ | refine AW.jf ?_ | refine AW.jj (fun hb => ?_) (fun hb => ?_) | refine AW.go ?_ | fail)
      refine AW.prune [2, 3, 4, 9, 130, 131, 132] (AW.loop (fun mz af h => ∃ (i : Nat) (s3 : CkS) (A3 : List (ByteArray × Stk)) (g3 : MG), i ≤ kids.length ∧ mz = kids.length - i ∧ af = [(2, .int .i64 lv), (3, .ref rc 0), (4, .at (.st [.int .i64 k, .int .i64 ar, .str nm, strs vars, strs args, .sl (kids.map GFml.av)])), (9, .ref r9 0), (130, .sl (kids.map GFml.av)), (131, .int .i64 (kids.map GFml.av).length), (132, .int .i64 i)] ∧ h = .box r9 (.str empB) :: .box rc (.ref b 0) :: ckH b mb mf s3 A3 g3 ∧ (chkL kids (lv + 1) env2 s2 = chkL (kids.drop i) (lv + 1) env2 s3 ∧ (s3.bad = false ∨ (kids = [] ∧ k = 0)) ∧ 0 ≤ s3.n ∧ s3.n ≤ 4000 ∧ ∀ x, envA A3 x = env2 x)) kids.length ⟨0, s2, A, gA, Nat.zero_le _, rfl, rfl, rfl, ⟨rfl, hsb, hs0, hs1, hA2⟩⟩ ?_)
      rintro mz af h ⟨i, s3, A3, g3, hi, rfl, rfl, rfl, he⟩
      refine AW.seq ?_
      by_cases hlt : i < kids.length
      · obtain ⟨he, hb3, g1, g2, hA3⟩ := he
        obtain ⟨x, hx⟩ := get_lt hlt
        have hx' : (kids.map GFml.av)[((i : Nat) : Int).toNat]? = some (x.st) := GFml.get hx
        have hxm := List.mem_of_getElem? hx
        have hnx := ndFs_mem hxm
        have hb3' : s3.bad = false := hb3.resolve_right (fun h => by rw [h.1] at hlt; simp at hlt)
        have henv3 : envA A3 = env2 := funext hA3
        have hc := (ih (ndF x) (by omega) x (lv + 1) A3 g3 s3 b mb mf (Nat.le_refl _) (q7 x hxm) (by omega) (by omega) hb3' g1 g2 (by rw [henv3]; exact hlen2)).front [.box r9 (.str empB), .box rc (.ref b 0)]
        rw [henv3] at hc
        have hcn := chk_n x (lv + 1) env2 s3 hb3' g2
        rw [drop_cons hx, chkL] at he
        generalize chk x (lv + 1) env2 s3 = s4 at *
        repeat' (first | refine AW.re 19 1 ?_ | (refine AW.r 20 ?_ <;> refine AL.d (AOp.index_sl rfl rfl (by omega) hx' (by kernel_rfl) rfl) ?_ <;> (first | refine AL.d AOp.la ?_ | refine AL.d (AOp.lw 0) ?_ | refine AL.d (AOp.lw 1) ?_ | refine AL.d (AOp.lw 2) ?_) <;> refine AL.alloc_store (by kernel_rfl) rfl rfl rfl rfl ?_ <;> refine AL.nil ?_) | (refine AW.r 21 ?_ <;> (first | refine AL.d AOp.la ?_ | refine AL.d (AOp.ll 0) ?_ | refine AL.d (AOp.ll 1) ?_ | refine AL.d (AOp.ll 2) ?_) <;> (first | refine AL.d AOp.la ?_ | refine AL.d (AOp.lw 0) ?_ | refine AL.d (AOp.lw 1) ?_ | refine AL.d (AOp.lw 2) ?_) <;> refine AL.es 1 ?_ <;> refine AL.d AOp.ad ?_ <;> (refine AL.callQ rfl rfl hc rfl ?_ ?_; rotate_left; rintro _ _ ⟨_, ⟨e, _⟩, _⟩; cases e; rintro _ _ ⟨_, ⟨e, A4, g4, hA4, rfl⟩, rfl⟩; injection e with e; subst e) <;> refine AL.nil ?_) | refine AW.jt ?_ | refine AW.jf ?_ | refine AW.jj (fun hb => ?_) (fun hb => ?_) | fail)
        all_goals try (exfalso; simp only [decide_eq_true_eq, decide_eq_false_iff_not, List.length_map] at *; omega)
        refine AW.perm (b := .box r9 (.str empB) :: .box rc (.ref b 0) :: ckH b mb mf s4 A4 g4) (List.perm_append_comm (l₁ := ckH b mb mf s4 A4 g4) (l₂ := [_, _])) ?_
        repeat' (first | (refine AW.r 22 ?_ <;> (first | refine AL.d AOp.la ?_ | refine AL.d (AOp.ll 0) ?_ | refine AL.d (AOp.ll 1) ?_ | refine AL.d (AOp.ll 2) ?_) <;> refine AL.es 1 ?_ <;> (first | refine AL.d AOp.fa ?_ | refine AL.d (AOp.fr 4) ?_) <;> (first | refine AL.d AOp.la ?_ | refine AL.d (AOp.ll 0) ?_ | refine AL.d (AOp.ll 1) ?_ | refine AL.d (AOp.ll 2) ?_) <;> refine AL.nil ?_) | refine AW.jt ?_ | refine AW.jf ?_ | refine AW.jj (fun hb => ?_) (fun hb => ?_) | refine AW.go ?_ | fail)
        · rw [hb, cond_true] at he
          exact hret _ s4 A4 g4 hA4 (by rw [hRf, he, fin, hb, cond_true]) _ _
        · rw [hb, cond_false] at he
          repeat' (first | (refine AW.r 23 ?_ <;> refine AL.d AOp.ad ?_ <;> refine AL.es 1 ?_ <;> refine AL.nil ?_) | refine AW.jt ?_ | refine AW.jf ?_ | refine AW.jj (fun hb => ?_) (fun hb => ?_) | refine AW.go ?_ | fail)
          refine AW.again_keep (kids.length - (i + 1)) [2, 3, 4, 9, 130, 131, 132] (by omega) ⟨i + 1, s4, A4, g4, hlt, rfl, rfl, rfl, ?_⟩
          exact ⟨he, .inl hb, by omega, (hcn.2 hb).1, hA4⟩
      · obtain ⟨he, hb3, g1, g2, hA3⟩ := he
        rw [List.drop_eq_nil_of_le (by omega), chkL] at he
        rw [he] at hRf
        repeat' (first | refine AW.re 19 1 ?_ | refine AW.jt ?_ | refine AW.jf ?_ | refine AW.jj (fun hb => ?_) (fun hb => ?_) | refine AW.go ?_ | fail)
        all_goals try (exfalso; simp only [decide_eq_true_eq, decide_eq_false_iff_not, List.length_map] at *; omega)
        cases k8 : (k == 8) with
        | true =>
          have k80 : ¬ k = 0 := fun h => by rw [h] at k8; cases k8
          have hb3' : s3.bad = false := hb3.resolve_right (fun h => k80 h.2)
          have hsb' : s2.bad = false := hsb.resolve_right (fun h => k80 h.2)
          have hk1 := shaped_kid hsh (.inl (by simpa using k8))
          have hshs := ((chkL_n kids (lv + 1) env2 s2 hsb' hs1).2 (by rw [he]; exact hb3')).2
          obtain ⟨y, rfl⟩ : ∃ y, kids = [y] := by
            match kids, hk1 with
            | [y], _ => exact ⟨y, rfl⟩
          have hy : ([y].map GFml.av)[((0 : Int)).toNat]? = some y.st := by simp [GFml.av_eq]
          have hpos := f_positive nm _ y true (Nat.le_refl _) (q7 y (by simp)) (shsFs_mem hshs (by simp))
          have hf : R = { s3 with bad := !ps2 nm y true } := by rw [hRf, fin, hb3', cond_false, k8, psH, Bool.true_and]
          generalize ps2 nm y true = Y at *
          obtain rfl : k = 8 := by simpa using k8
          repeat' (first | (refine AW.dq 24 ?_ <;> (first | refine AQ.p rfl AOp.fa ?_ | refine AQ.p rfl (AOp.fr 0) ?_) <;> (first | refine AQ.p rfl AOp.la ?_ | refine AQ.p rfl (AOp.ll 0) ?_ | refine AQ.p rfl (AOp.ll 1) ?_ | refine AQ.p rfl (AOp.ll 2) ?_) <;> refine AQ.es 2 ?_ <;> (first | refine AQ.gp rfl AOp.fa ?_ | refine AQ.gp rfl (AOp.fr 5) ?_ | refine AQ.k ?_ | (refine AQ.x (fun hb => ?_) (fun hb => ?_) <;> first | refine AQ.gp rfl AOp.fa ?_ | refine AQ.gp rfl (AOp.fr 5) ?_ | refine AQ.k ?_)) <;> (first | refine AQ.gp rfl AOp.la ?_ | refine AQ.gp rfl (AOp.ll 0) ?_ | refine AQ.gp rfl (AOp.ll 1) ?_ | refine AQ.gp rfl (AOp.ll 2) ?_ | refine AQ.k ?_) <;> (first | refine AQ.gp rfl (AOp.index_sl rfl rfl (by omega) hy (by kernel_rfl) rfl) ?_ | refine AQ.k ?_) <;> (first | refine AQ.gp rfl AOp.la ?_ | refine AQ.gp rfl (AOp.lw 0) ?_ | refine AQ.gp rfl (AOp.lw 1) ?_ | refine AQ.gp rfl (AOp.lw 2) ?_ | refine AQ.k ?_) <;> (first | refine AQ.gp rfl AOp.fa ?_ | refine AQ.gp rfl (AOp.fr 2) ?_ | refine AQ.k ?_) <;> (first | refine AQ.gp rfl AOp.la ?_ | refine AQ.gp rfl (AOp.ll 0) ?_ | refine AQ.gp rfl (AOp.ll 1) ?_ | refine AQ.gp rfl (AOp.ll 2) ?_ | refine AQ.k ?_) <;> (first | refine AQ.gp rfl (AOp.call rfl rfl (hpos.pure _)) ?_ | refine AQ.k ?_) <;> refine AQ.es 2 ?_ <;> refine AQ.nil ?_) | (refine AW.r 25 ?_ <;> (first | refine AL.d AOp.la ?_ | refine AL.d (AOp.ll 0) ?_ | refine AL.d (AOp.ll 1) ?_ | refine AL.d (AOp.ll 2) ?_) <;> refine AL.es 1 ?_ <;> (first | refine AL.d AOp.fa ?_ | refine AL.d (AOp.fr 4) ?_) <;> (first | refine AL.sl 0 ?_ | refine AL.sl 1 ?_ | refine AL.sl 2 ?_) <;> refine AL.nil ?_) | refine AW.jt ?_ | refine AW.jf ?_ | refine AW.jj (fun hb => ?_) (fun hb => ?_) | refine AW.go ?_ | fail)
          · exact hdone _ { s3 with bad := true } A3 g3 hA3 (by rw [hf, hb]) _
          · refine AW.frame_eq rfl (show _ = .box r9 (.str empB) :: .box rc (.ref b 0) :: ckH b mb mf { s3 with bad := false } A3 g3 from by rw [← hb3']) ?_
            exact hdone _ { s3 with bad := false } A3 g3 hA3 (by rw [hf, hb]) _
        | false =>
          have hf : R = s3 := by
            rw [hRf, fin, k8, Bool.false_and]
            cases hq : s3.bad with
            | true => rfl
            | false => obtain ⟨v1, v2, v3, v4, v5⟩ := s3; simp only at hq; subst hq; rfl
          repeat' (first | (refine AW.dq 24 ?_ <;> (first | refine AQ.p rfl AOp.fa ?_ | refine AQ.p rfl (AOp.fr 0) ?_) <;> (first | refine AQ.p rfl AOp.la ?_ | refine AQ.p rfl (AOp.ll 0) ?_ | refine AQ.p rfl (AOp.ll 1) ?_ | refine AQ.p rfl (AOp.ll 2) ?_) <;> refine AQ.es 2 ?_ <;> (first | refine AQ.gp rfl AOp.fa ?_ | refine AQ.gp rfl (AOp.fr 5) ?_ | refine AQ.k ?_ | (refine AQ.x (fun hb => ?_) (fun hb => ?_) <;> first | refine AQ.gp rfl AOp.fa ?_ | refine AQ.gp rfl (AOp.fr 5) ?_ | refine AQ.k ?_)) <;> (first | refine AQ.gp rfl AOp.la ?_ | refine AQ.gp rfl (AOp.ll 0) ?_ | refine AQ.gp rfl (AOp.ll 1) ?_ | refine AQ.gp rfl (AOp.ll 2) ?_ | refine AQ.k ?_) <;> (first | (exfalso; simp only [decide_eq_true_eq, decide_eq_false_iff_not, List.length_map, bne_iff_ne, ne_eq, bne_eq_false_iff_eq, beq_iff_eq, beq_eq_false_iff_ne] at *; omega) | refine AQ.gp rfl (AOp.index_sl rfl rfl (by omega) (by assumption) (by kernel_rfl) rfl) ?_ | refine AQ.k ?_) <;> (first | refine AQ.gp rfl AOp.la ?_ | refine AQ.gp rfl (AOp.lw 0) ?_ | refine AQ.gp rfl (AOp.lw 1) ?_ | refine AQ.gp rfl (AOp.lw 2) ?_ | refine AQ.k ?_) <;> (first | refine AQ.gp rfl AOp.fa ?_ | refine AQ.gp rfl (AOp.fr 2) ?_ | refine AQ.k ?_) <;> (first | refine AQ.gp rfl AOp.la ?_ | refine AQ.gp rfl (AOp.ll 0) ?_ | refine AQ.gp rfl (AOp.ll 1) ?_ | refine AQ.gp rfl (AOp.ll 2) ?_ | refine AQ.k ?_) <;> (first | (exfalso; simp only [decide_eq_true_eq, decide_eq_false_iff_not, List.length_map, bne_iff_ne, ne_eq, bne_eq_false_iff_eq, beq_iff_eq, beq_eq_false_iff_ne] at *; omega) | refine AQ.gp rfl (AOp.call rfl rfl (by assumption)) ?_ | refine AQ.k ?_) <;> refine AQ.es 2 ?_ <;> refine AQ.nil ?_) | refine AW.jt ?_ | refine AW.jf ?_ | refine AW.jj (fun hb => ?_) (fun hb => ?_) | refine AW.go ?_ | fail)
          all_goals try (exfalso; rw [k8] at hb; exact Bool.noConfusion hb)
          exact hdone _ s3 A3 g3 hA3 hf _
    | true =>
      rw [hBb, cond_true] at hE2
      refine AW.frame_eq (af' := [(2, .int .i64 lv), (3, .ref rc 0), (4, .at (.st [.int .i64 k, .int .i64 ar, .str nm, strs vars, strs args, .sl (kids.map GFml.av)])), (9, .ref r9 0), (10, .int .i64 bn), (11, .bool true)]) (ah' := .box r9 (.str nm) :: .box rc (.ref b 0) :: ckH b mb mf s2 A gA) rfl rfl ?_
      have hnmL := hlen nm
      repeat' (first | refine AW.re 15 1 ?_ | refine AW.jt ?_ | refine AW.jf ?_ | refine AW.jj (fun hb => ?_) (fun hb => ?_) | fail)
      refine AW.seq ?_
      refine AW.cut (fun af ah => ∃ (A2 : List (ByteArray × Stk)) (gA2 : MG), af = [(2, .int .i64 lv), (3, .ref rc 0), (4, .at (.st [.int .i64 k, .int .i64 ar, .str nm, strs vars, strs args, .sl (kids.map GFml.av)])), (9, .ref r9 0)] ∧ ah = .box r9 (.str nm) :: .box rc (.ref b 0) :: ckH b mb mf s2 A2 gA2 ∧ ∀ x, envA A2 x = env2 x) ?_ ?_
      · cases hL : lookA A nm with
        | none =>
          refine AW.explore [false, false, false, true] [13, 14] rfl (by kernel_rfl) (by kernel_rfl) (by kernel_rfl) (by kernel_rfl) ?_
          repeat' (first
            | refine AQE.hole rfl rfl ?_
            | refine AQE.ev rfl rfl rfl rfl ?_
            | refine AQE.op rfl (AOp.fr 2) rfl rfl ?_
            | refine AQE.op rfl (AOp.ll 0) rfl rfl ?_
            | refine AQE.op rfl (AOp.ll 1) rfl rfl ?_
            | refine AQE.op rfl (AOp.ll 2) rfl rfl ?_
            | refine AQE.early rfl rfl (AOp.lookS_nil 0 110 (.slice none 0 0) hL rfl rfl rfl (by kernel_rfl) (by kernel_rfl) rfl) rfl rfl ?_
            | refine AQE.op rfl (AOp.lit (e := 3) (sz := 1) (by kernel_rfl) rfl rfl rfl (P_one rfl) (by decide)) rfl rfl ?_
            | refine AQE.nil ?_)
          refine AX.one (n := 1) 13 rfl ?_
          refine AXS.step (i := 13) rfl rfl rfl (AOp.append_i0 (v := iav bn) (e := 3) (bytes := 8) (c0 := .int .i64 0) rfl rfl rfl (by kernel_rfl) (by kernel_rfl) (by omega)) ?_ (by rintro _ _ ⟨_, _, e, _⟩; cases e)
          rintro _ _ ⟨b', tl', e, rfl⟩
          injection e with e
          subst e
          dsimp only [List.set_cons_succ, List.set_cons_zero]
          refine AX.one (n := 0) 14 rfl ?_
          refine AXS.step (i := 14) rfl rfl rfl (AOp.mapUpdate (i := 1) (kd := .string) (e := 110) (k := .str nm) (v := Stk.av ⟨b', [bn], tl'⟩) rfl rfl rfl rfl (by kernel_rfl) rfl (keysOK_kvW _ _)) ?_ (by rintro _ _ ⟨⟨_, e⟩, _⟩; cases e)
          rintro _ _ ⟨⟨_, e⟩, rfl⟩
          dsimp only [List.set_cons_succ, List.set_cons_zero]
          refine AX.done [(2, .int .i64 lv), (3, .ref rc 0), (4, .at (.st [.int .i64 k, .int .i64 ar, .str nm, strs vars, strs args, .sl (kids.map GFml.av)])), (9, .ref r9 0)] rfl ?_
          clear e
          rw [mset_kvW, gset_kvW]
          have hrw : rowsA (setA A nm ⟨b', [bn], tl'⟩) = rowsA A ++ [Own.row b' ([iav bn] ++ tl')] := by rw [setA_miss hL]; simp [rowsA, Stk.row]
          refine AW.perm (b := .box r9 (.str nm) :: .box rc (.ref b 0) :: ckH b mb mf s2 (setA A nm ⟨b', [bn], tl'⟩) (gsetA A gA nm)) ?_ (AW.meet [2, 3, 4, 9] ⟨_, _, rfl, rfl, fun x => ?_⟩)
          · unfold ckH
            rw [hrw]
            exact ((List.perm_append_singleton _ _).symm).trans (List.Perm.append_right _ (List.perm_middle (l₁ := [_, _, _])).symm)
          · rw [← hE2]
            simp only [envA, look_setA, pushE, hL]
            by_cases e : x = nm
            · subst e; simp [hL]
            · simp [e]
        | some t =>
          obtain ⟨tb, tl, tt⟩ := t
          obtain ⟨j, hj1, hj2⟩ := setA_hit hL
          have henv : envA A nm = tl := by simp only [envA, hL]
          rw [henv] at hnmL
          have hrj := rowsA_get hj1
          refine AW.perm (b := .box r9 (.str nm) :: .box rc (.ref b 0) :: .box b (ckBox s2 mb mf) :: .map mb (kvW Stk.av A) gA :: .row tb (tl.map iav ++ tt) :: .map mf (kvW iav s2.F) s2.gF :: (rowsA A).eraseIdx j) ?_ ?_
          · exact (((((perm_erase hrj).cons _).trans (.swap _ _ _)).cons _).cons _ |>.cons _).cons _
          refine AW.explore [false, false, false, true, true] [13, 14] rfl (by kernel_rfl) (by kernel_rfl) (by kernel_rfl) (by kernel_rfl) ?_
          repeat' (first
            | refine AQE.hole rfl rfl ?_
            | refine AQE.ev rfl rfl rfl rfl ?_
            | refine AQE.op rfl (AOp.fr 2) rfl rfl ?_
            | refine AQE.op rfl (AOp.ll 0) rfl rfl ?_
            | refine AQE.op rfl (AOp.ll 1) rfl rfl ?_
            | refine AQE.op rfl (AOp.ll 2) rfl rfl ?_
            | refine AQE.early rfl rfl (AOp.lookS_hit 0 110 (g := Stk.av) (ok := false) hL rfl rfl rfl (by kernel_rfl)) rfl rfl ?_
            | refine AQE.op rfl (AOp.lit (e := 3) (sz := 1) (by kernel_rfl) rfl rfl rfl (P_one rfl) (by decide)) rfl rfl ?_
            | refine AQE.nil ?_)
          refine AX.one (n := 1) 13 rfl ?_
          refine AXS.step (i := 13) rfl rfl rfl (AOp.append_i (i := 1) (us := tl.map iav) (tl := tt) (v := iav bn) (e := 3) (bytes := 8) (c0 := .int .i64 0) rfl rfl rfl rfl rfl (by kernel_rfl) (by kernel_rfl) (by simp only [List.length_map]; omega) (by simp only [List.length_map]; omega)) ?_ (by rintro _ _ ⟨_, _, e, _⟩; cases e)
          rintro _ _ ⟨b', tl', e, rfl⟩
          injection e with e
          subst e
          dsimp only [List.set_cons_succ, List.set_cons_zero]
          have hav : AV.osl b' (tl.map iav ++ [iav bn]).length ((tl.map iav ++ [iav bn]).length + tl'.length) = Stk.av ⟨b', tl ++ [bn], tl'⟩ := by simp [Stk.av]
          rw [hav]
          refine AX.one (n := 0) 14 rfl ?_
          refine AXS.step (i := 14) rfl rfl rfl (AOp.mapUpdate (i := 0) (kd := .string) (e := 110) (k := .str nm) (v := Stk.av ⟨b', tl ++ [bn], tl'⟩) rfl rfl rfl rfl (by kernel_rfl) rfl (keysOK_kvW _ _)) ?_ (by rintro _ _ ⟨⟨_, e⟩, _⟩; cases e)
          rintro _ _ ⟨⟨_, e⟩, rfl⟩
          dsimp only [List.set_cons_succ, List.set_cons_zero]
          refine AX.done [(2, .int .i64 lv), (3, .ref rc 0), (4, .at (.st [.int .i64 k, .int .i64 ar, .str nm, strs vars, strs args, .sl (kids.map GFml.av)])), (9, .ref r9 0)] rfl ?_
          clear e
          rw [mset_kvW, gset_kvW]
          have hrw : rowsA (setA A nm ⟨b', tl ++ [bn], tl'⟩) = (rowsA A).set j (Own.row b' (tl.map iav ++ [iav bn] ++ tl')) := by rw [hj2, rowsA_set]; simp [Stk.row]
          refine AW.perm (b := .box r9 (.str nm) :: .box rc (.ref b 0) :: ckH b mb mf s2 (setA A nm ⟨b', tl ++ [bn], tl'⟩) (gsetA A gA nm)) ?_ (AW.meet [2, 3, 4, 9] ⟨_, _, rfl, rfl, fun x => ?_⟩)
          · unfold ckH
            rw [hrw]
            have hp := perm_set (Own.row b' (tl.map iav ++ [iav bn] ++ tl')) hrj
            exact perm7 hp
          · rw [← hE2]
            simp only [envA, look_setA, pushE, hL]
            by_cases e : x = nm
            · subst e; simp [hL]
            · simp [e]
      rintro af ah ⟨A2, gA2, rfl, rfl, hA2⟩
      repeat' (first | (refine AW.r 17 ?_ <;> refine AL.es 1 ?_ <;> refine AL.defer rfl rfl rfl ?_ <;> refine AL.nil ?_) | refine AW.jt ?_ | refine AW.jf ?_ | refine AW.jj (fun hb => ?_) (fun hb => ?_) | fail)
      have hret0 : ∀ (s3 : CkS) (A3 : List (ByteArray × Stk)) (g3 : MG), (∀ x, envA A3 x = env2 x) → R = s3 → TriD Tryd.prog 86 [.ref rc 0, .ref r9 0] (.box r9 (.str nm) :: .box rc (.ref b 0) :: ckH b mb mf s3 A3 g3) .returning (fun u' h => settle u' = .returning ∧ ∃ h', h'.Sublist h ∧ CkPost b mb mf (envA A) R (.ret (.tup [])) h') := by
        intro s3 A3 g3 h1 h2
        have h3 := h1 nm
        rw [← hE2] at h3
        simp only [pushE, if_true] at h3
        cases hL : lookA A3 nm with
        | none => simp only [envA, hL] at h3; simp at h3
        | some t =>
          simp only [envA, hL] at h3
          refine (walk_defer b mb mf rc r9 s3 A3 g3 nm t hL (envA A nm) bn h3 (by omega)).mono ?_
          rintro u' h ⟨rfl, A', h4, rfl⟩
          refine ⟨rfl, _, (List.sublist_cons_self _ _).trans (List.sublist_cons_self _ _), rfl, A', g3, fun x => ?_, by rw [h2]⟩
          rw [h4, h1, ← hE2]
          simp only [pushE]
          by_cases e : x = nm
          · rw [if_pos e, e]
          · rw [if_neg e, if_neg e]
      have hret : ∀ (R0 : Rg) (s3 : CkS) (A3 : List (ByteArray × Stk)) (g3 : MG), (∀ x, envA A3 x = env2 x) → R = s3 → ∀ ks af, AW (CofD Tryd.prog Tryd.f60 162 Fr R0 w0 (CkPost b mb mf (envA A) R)) [{ target := .fn (.func 86) #[.pointer (some ⟨rc, 0, none⟩), .pointer (some ⟨r9, 0, none⟩)], args := #[] }] (.c .ret :: ks) af (.box r9 (.str nm) :: .box rc (.ref b 0) :: ckH b mb mf s3 A3 g3) :=
        fun R0 s3 A3 g3 h1 h2 ks af => AW.retD1n rfl rfl (hret0 s3 A3 g3 h1 h2)
      have hdone : ∀ (R0 : Rg) (s3 : CkS) (A3 : List (ByteArray × Stk)) (g3 : MG), (∀ x, envA A3 x = env2 x) → R = s3 → ∀ af, AW (CofD Tryd.prog Tryd.f60 162 Fr R0 w0 (CkPost b mb mf (envA A) R)) [{ target := .fn (.func 86) #[.pointer (some ⟨rc, 0, none⟩), .pointer (some ⟨r9, 0, none⟩)], args := #[] }] [] af (.box r9 (.str nm) :: .box rc (.ref b 0) :: ckH b mb mf s3 A3 g3) :=
        fun R0 s3 A3 g3 h1 h2 af => AW.doneD1n rfl rfl (hret0 s3 A3 g3 h1 h2)
      have hlen2 : ∀ x, ((env2 x).length : Int) ≤ lv + 1 := fun x => by
        have := hlen x
        rw [← hE2]
        simp only [pushE]
        split
        · simp only [List.length_append, List.length_singleton]; omega
        · omega
      clear hret0 hBb hB
      repeat' (first | refine AW.re 18 4 ?_ | refine AW.jt ?_ | refine AW.jf ?_ | refine AW.jj (fun hb => ?_) (fun hb => ?_) | refine AW.go ?_ | fail)
      refine AW.prune [2, 3, 4, 9, 130, 131, 132] (AW.loop (fun mz af h => ∃ (i : Nat) (s3 : CkS) (A3 : List (ByteArray × Stk)) (g3 : MG), i ≤ kids.length ∧ mz = kids.length - i ∧ af = [(2, .int .i64 lv), (3, .ref rc 0), (4, .at (.st [.int .i64 k, .int .i64 ar, .str nm, strs vars, strs args, .sl (kids.map GFml.av)])), (9, .ref r9 0), (130, .sl (kids.map GFml.av)), (131, .int .i64 (kids.map GFml.av).length), (132, .int .i64 i)] ∧ h = .box r9 (.str nm) :: .box rc (.ref b 0) :: ckH b mb mf s3 A3 g3 ∧ (chkL kids (lv + 1) env2 s2 = chkL (kids.drop i) (lv + 1) env2 s3 ∧ (s3.bad = false ∨ (kids = [] ∧ k = 0)) ∧ 0 ≤ s3.n ∧ s3.n ≤ 4000 ∧ ∀ x, envA A3 x = env2 x)) kids.length ⟨0, s2, A2, gA2, Nat.zero_le _, rfl, rfl, rfl, ⟨rfl, hsb, hs0, hs1, hA2⟩⟩ ?_)
      rintro mz af h ⟨i, s3, A3, g3, hi, rfl, rfl, rfl, he⟩
      refine AW.seq ?_
      by_cases hlt : i < kids.length
      · obtain ⟨he, hb3, g1, g2, hA3⟩ := he
        obtain ⟨x, hx⟩ := get_lt hlt
        have hx' : (kids.map GFml.av)[((i : Nat) : Int).toNat]? = some (x.st) := GFml.get hx
        have hxm := List.mem_of_getElem? hx
        have hnx := ndFs_mem hxm
        have hb3' : s3.bad = false := hb3.resolve_right (fun h => by rw [h.1] at hlt; simp at hlt)
        have henv3 : envA A3 = env2 := funext hA3
        have hc := (ih (ndF x) (by omega) x (lv + 1) A3 g3 s3 b mb mf (Nat.le_refl _) (q7 x hxm) (by omega) (by omega) hb3' g1 g2 (by rw [henv3]; exact hlen2)).front [.box r9 (.str nm), .box rc (.ref b 0)]
        rw [henv3] at hc
        have hcn := chk_n x (lv + 1) env2 s3 hb3' g2
        rw [drop_cons hx, chkL] at he
        generalize chk x (lv + 1) env2 s3 = s4 at *
        repeat' (first | refine AW.re 19 1 ?_ | (refine AW.r 20 ?_ <;> refine AL.d (AOp.index_sl rfl rfl (by omega) hx' (by kernel_rfl) rfl) ?_ <;> (first | refine AL.d AOp.la ?_ | refine AL.d (AOp.lw 0) ?_ | refine AL.d (AOp.lw 1) ?_ | refine AL.d (AOp.lw 2) ?_) <;> refine AL.alloc_store (by kernel_rfl) rfl rfl rfl rfl ?_ <;> refine AL.nil ?_) | (refine AW.r 21 ?_ <;> (first | refine AL.d AOp.la ?_ | refine AL.d (AOp.ll 0) ?_ | refine AL.d (AOp.ll 1) ?_ | refine AL.d (AOp.ll 2) ?_) <;> (first | refine AL.d AOp.la ?_ | refine AL.d (AOp.lw 0) ?_ | refine AL.d (AOp.lw 1) ?_ | refine AL.d (AOp.lw 2) ?_) <;> refine AL.es 1 ?_ <;> refine AL.d AOp.ad ?_ <;> (refine AL.callQ rfl rfl hc rfl ?_ ?_; rotate_left; rintro _ _ ⟨_, ⟨e, _⟩, _⟩; cases e; rintro _ _ ⟨_, ⟨e, A4, g4, hA4, rfl⟩, rfl⟩; injection e with e; subst e) <;> refine AL.nil ?_) | refine AW.jt ?_ | refine AW.jf ?_ | refine AW.jj (fun hb => ?_) (fun hb => ?_) | fail)
        all_goals try (exfalso; simp only [decide_eq_true_eq, decide_eq_false_iff_not, List.length_map] at *; omega)
        refine AW.perm (b := .box r9 (.str nm) :: .box rc (.ref b 0) :: ckH b mb mf s4 A4 g4) (List.perm_append_comm (l₁ := ckH b mb mf s4 A4 g4) (l₂ := [_, _])) ?_
        repeat' (first | (refine AW.r 22 ?_ <;> (first | refine AL.d AOp.la ?_ | refine AL.d (AOp.ll 0) ?_ | refine AL.d (AOp.ll 1) ?_ | refine AL.d (AOp.ll 2) ?_) <;> refine AL.es 1 ?_ <;> (first | refine AL.d AOp.fa ?_ | refine AL.d (AOp.fr 4) ?_) <;> (first | refine AL.d AOp.la ?_ | refine AL.d (AOp.ll 0) ?_ | refine AL.d (AOp.ll 1) ?_ | refine AL.d (AOp.ll 2) ?_) <;> refine AL.nil ?_) | refine AW.jt ?_ | refine AW.jf ?_ | refine AW.jj (fun hb => ?_) (fun hb => ?_) | refine AW.go ?_ | fail)
        · rw [hb, cond_true] at he
          exact hret _ s4 A4 g4 hA4 (by rw [hRf, he, fin, hb, cond_true]) _ _
        · rw [hb, cond_false] at he
          repeat' (first | (refine AW.r 23 ?_ <;> refine AL.d AOp.ad ?_ <;> refine AL.es 1 ?_ <;> refine AL.nil ?_) | refine AW.jt ?_ | refine AW.jf ?_ | refine AW.jj (fun hb => ?_) (fun hb => ?_) | refine AW.go ?_ | fail)
          refine AW.again_keep (kids.length - (i + 1)) [2, 3, 4, 9, 130, 131, 132] (by omega) ⟨i + 1, s4, A4, g4, hlt, rfl, rfl, rfl, ?_⟩
          exact ⟨he, .inl hb, by omega, (hcn.2 hb).1, hA4⟩
      · obtain ⟨he, hb3, g1, g2, hA3⟩ := he
        rw [List.drop_eq_nil_of_le (by omega), chkL] at he
        rw [he] at hRf
        repeat' (first | refine AW.re 19 1 ?_ | refine AW.jt ?_ | refine AW.jf ?_ | refine AW.jj (fun hb => ?_) (fun hb => ?_) | refine AW.go ?_ | fail)
        all_goals try (exfalso; simp only [decide_eq_true_eq, decide_eq_false_iff_not, List.length_map] at *; omega)
        cases k8 : (k == 8) with
        | true =>
          have k80 : ¬ k = 0 := fun h => by rw [h] at k8; cases k8
          have hb3' : s3.bad = false := hb3.resolve_right (fun h => k80 h.2)
          have hsb' : s2.bad = false := hsb.resolve_right (fun h => k80 h.2)
          have hk1 := shaped_kid hsh (.inl (by simpa using k8))
          have hshs := ((chkL_n kids (lv + 1) env2 s2 hsb' hs1).2 (by rw [he]; exact hb3')).2
          obtain ⟨y, rfl⟩ : ∃ y, kids = [y] := by
            match kids, hk1 with
            | [y], _ => exact ⟨y, rfl⟩
          have hy : ([y].map GFml.av)[((0 : Int)).toNat]? = some y.st := by simp [GFml.av_eq]
          have hpos := f_positive nm _ y true (Nat.le_refl _) (q7 y (by simp)) (shsFs_mem hshs (by simp))
          have hf : R = { s3 with bad := !ps2 nm y true } := by rw [hRf, fin, hb3', cond_false, k8, psH, Bool.true_and]
          generalize ps2 nm y true = Y at *
          obtain rfl : k = 8 := by simpa using k8
          repeat' (first | (refine AW.dq 24 ?_ <;> (first | refine AQ.p rfl AOp.fa ?_ | refine AQ.p rfl (AOp.fr 0) ?_) <;> (first | refine AQ.p rfl AOp.la ?_ | refine AQ.p rfl (AOp.ll 0) ?_ | refine AQ.p rfl (AOp.ll 1) ?_ | refine AQ.p rfl (AOp.ll 2) ?_) <;> refine AQ.es 2 ?_ <;> (first | refine AQ.gp rfl AOp.fa ?_ | refine AQ.gp rfl (AOp.fr 5) ?_ | refine AQ.k ?_ | (refine AQ.x (fun hb => ?_) (fun hb => ?_) <;> first | refine AQ.gp rfl AOp.fa ?_ | refine AQ.gp rfl (AOp.fr 5) ?_ | refine AQ.k ?_)) <;> (first | refine AQ.gp rfl AOp.la ?_ | refine AQ.gp rfl (AOp.ll 0) ?_ | refine AQ.gp rfl (AOp.ll 1) ?_ | refine AQ.gp rfl (AOp.ll 2) ?_ | refine AQ.k ?_) <;> (first | refine AQ.gp rfl (AOp.index_sl rfl rfl (by omega) hy (by kernel_rfl) rfl) ?_ | refine AQ.k ?_) <;> (first | refine AQ.gp rfl AOp.la ?_ | refine AQ.gp rfl (AOp.lw 0) ?_ | refine AQ.gp rfl (AOp.lw 1) ?_ | refine AQ.gp rfl (AOp.lw 2) ?_ | refine AQ.k ?_) <;> (first | refine AQ.gp rfl AOp.fa ?_ | refine AQ.gp rfl (AOp.fr 2) ?_ | refine AQ.k ?_) <;> (first | refine AQ.gp rfl AOp.la ?_ | refine AQ.gp rfl (AOp.ll 0) ?_ | refine AQ.gp rfl (AOp.ll 1) ?_ | refine AQ.gp rfl (AOp.ll 2) ?_ | refine AQ.k ?_) <;> (first | refine AQ.gp rfl (AOp.call rfl rfl (hpos.pure _)) ?_ | refine AQ.k ?_) <;> refine AQ.es 2 ?_ <;> refine AQ.nil ?_) | (refine AW.r 25 ?_ <;> (first | refine AL.d AOp.la ?_ | refine AL.d (AOp.ll 0) ?_ | refine AL.d (AOp.ll 1) ?_ | refine AL.d (AOp.ll 2) ?_) <;> refine AL.es 1 ?_ <;> (first | refine AL.d AOp.fa ?_ | refine AL.d (AOp.fr 4) ?_) <;> (first | refine AL.sl 0 ?_ | refine AL.sl 1 ?_ | refine AL.sl 2 ?_) <;> refine AL.nil ?_) | refine AW.jt ?_ | refine AW.jf ?_ | refine AW.jj (fun hb => ?_) (fun hb => ?_) | refine AW.go ?_ | fail)
          · exact hdone _ { s3 with bad := true } A3 g3 hA3 (by rw [hf, hb]) _
          · refine AW.frame_eq rfl (show _ = .box r9 (.str nm) :: .box rc (.ref b 0) :: ckH b mb mf { s3 with bad := false } A3 g3 from by rw [← hb3']) ?_
            exact hdone _ { s3 with bad := false } A3 g3 hA3 (by rw [hf, hb]) _
        | false =>
          have hf : R = s3 := by
            rw [hRf, fin, k8, Bool.false_and]
            cases hq : s3.bad with
            | true => rfl
            | false => obtain ⟨v1, v2, v3, v4, v5⟩ := s3; simp only at hq; subst hq; rfl
          repeat' (first | (refine AW.dq 24 ?_ <;> (first | refine AQ.p rfl AOp.fa ?_ | refine AQ.p rfl (AOp.fr 0) ?_) <;> (first | refine AQ.p rfl AOp.la ?_ | refine AQ.p rfl (AOp.ll 0) ?_ | refine AQ.p rfl (AOp.ll 1) ?_ | refine AQ.p rfl (AOp.ll 2) ?_) <;> refine AQ.es 2 ?_ <;> (first | refine AQ.gp rfl AOp.fa ?_ | refine AQ.gp rfl (AOp.fr 5) ?_ | refine AQ.k ?_ | (refine AQ.x (fun hb => ?_) (fun hb => ?_) <;> first | refine AQ.gp rfl AOp.fa ?_ | refine AQ.gp rfl (AOp.fr 5) ?_ | refine AQ.k ?_)) <;> (first | refine AQ.gp rfl AOp.la ?_ | refine AQ.gp rfl (AOp.ll 0) ?_ | refine AQ.gp rfl (AOp.ll 1) ?_ | refine AQ.gp rfl (AOp.ll 2) ?_ | refine AQ.k ?_) <;> (first | (exfalso; simp only [decide_eq_true_eq, decide_eq_false_iff_not, List.length_map, bne_iff_ne, ne_eq, bne_eq_false_iff_eq, beq_iff_eq, beq_eq_false_iff_ne] at *; omega) | refine AQ.gp rfl (AOp.index_sl rfl rfl (by omega) (by assumption) (by kernel_rfl) rfl) ?_ | refine AQ.k ?_) <;> (first | refine AQ.gp rfl AOp.la ?_ | refine AQ.gp rfl (AOp.lw 0) ?_ | refine AQ.gp rfl (AOp.lw 1) ?_ | refine AQ.gp rfl (AOp.lw 2) ?_ | refine AQ.k ?_) <;> (first | refine AQ.gp rfl AOp.fa ?_ | refine AQ.gp rfl (AOp.fr 2) ?_ | refine AQ.k ?_) <;> (first | refine AQ.gp rfl AOp.la ?_ | refine AQ.gp rfl (AOp.ll 0) ?_ | refine AQ.gp rfl (AOp.ll 1) ?_ | refine AQ.gp rfl (AOp.ll 2) ?_ | refine AQ.k ?_) <;> (first | (exfalso; simp only [decide_eq_true_eq, decide_eq_false_iff_not, List.length_map, bne_iff_ne, ne_eq, bne_eq_false_iff_eq, beq_iff_eq, beq_eq_false_iff_ne] at *; omega) | refine AQ.gp rfl (AOp.call rfl rfl (by assumption)) ?_ | refine AQ.k ?_) <;> refine AQ.es 2 ?_ <;> refine AQ.nil ?_) | refine AW.jt ?_ | refine AW.jf ?_ | refine AW.jj (fun hb => ?_) (fun hb => ?_) | refine AW.go ?_ | fail)
          all_goals try (exfalso; rw [k8] at hb; exact Bool.noConfusion hb)
          exact hdone _ s3 A3 g3 hA3 hf _
end Go.Proofs.YtlpndgodkkndnaaDoor
namespace Go.Proofs.YtlpndgodkkndnaaDoor
open Go.RowKit Go.SX
set_option maxRecDepth 100000
set_option maxHeartbeats 4000000
set_option linter.unusedVariables false
set_option linter.unusedSimpArgs false
theorem f_checked (f : GFml) (ho : f.Ok) : Tri Tryd.prog 38 [f.st] [] (fun x h => ∃ b mb mf A gA, x = .ret (.ref b 0) ∧ h = ckH b mb mf (chk f 1 (fun _ => []) chk0) A gA) := by
  have hw := fun b mb mf => chk_walk _ f 1 [] ⟨[], 0⟩ chk0 b mb mf (Nat.le_refl _) ho (by omega) (by omega) rfl (by decide) (by decide) (fun k => by simp [envA, lookA])
  have he : envA [] = fun _ => [] := by funext k; rfl
  rw [he] at hw
  generalize chk f 1 (fun _ => []) chk0 = R at *
  obtain ⟨k, ar, nm, vars, args, kids⟩ := f
  refine Tri.enter 12 Tryd.func38 rfl rfl rfl rfl fun Fr w0 => ?_
  repeat' (first | (refine AW.r 0 ?_ <;> (first | refine AL.d (AOp.box_ro (v := .st [.int .i64 k, .int .i64 ar, .str nm, strs vars, strs args, .sl (kids.map GFml.av)]) rfl rfl) ?_ | refine AL.d (AOp.box_ro rfl rfl) ?_) <;> refine AL.es 1 ?_ <;> refine AL.nil ?_) | refine AW.jt ?_ | refine AW.jf ?_ | refine AW.jj (fun hb => ?_) (fun hb => ?_) | refine AW.go ?_ | fail)
  repeat' (first | (refine AW.r 1 ?_ <;> refine AL.makeMap rfl fun bm => ?_ <;> refine AL.makeMap rfl fun bm => ?_ <;> refine AL.d (AOp.build (pl := [(0, 1), (1, 1), (2, 1), (3, 1), (4, 1)]) (z := .st [.int .i64 0, .int .i64 0, .val (.map none), .val (.map none), .bool false]) (by kernel_rfl) rfl rfl rfl) ?_ <;> refine AL.box rfl rfl rfl fun b => ?_ <;> refine AL.es 1 ?_ <;> refine AL.nil ?_) | refine AW.jt ?_ | refine AW.jf ?_ | refine AW.jj (fun hb => ?_) (fun hb => ?_) | refine AW.go ?_ | fail)
  rename_i mb
  refine AW.perm (b := ckH b mb bm chk0 [] ⟨[], 0⟩) ((List.Perm.swap _ _ _).cons _) ?_
  have hw1 := hw b mb bm
  repeat' (first | (refine AW.r 2 ?_ <;> refine AL.es 2 ?_ <;> (refine AL.callQ rfl rfl hw1 rfl ?_ ?_; rotate_left; rintro _ _ ⟨e, _⟩; cases e; rintro _ _ ⟨e, A4, g4, hA4, rfl⟩; injection e with e; subst e) <;> refine AL.nil ?_) | refine AW.jt ?_ | refine AW.jf ?_ | refine AW.jj (fun hb => ?_) (fun hb => ?_) | refine AW.go ?_ | fail)
  repeat' (first | refine AW.re 3 2 ?_ | refine AW.jt ?_ | refine AW.jf ?_ | refine AW.jj (fun hb => ?_) (fun hb => ?_) | refine AW.go ?_ | fail)
  exact AW.retv rfl ⟨_, _, _, _, _, rfl, rfl⟩
theorem f_Valid (f : GFml) (ho : f.Ok) : Tri Tryd.prog 14 [f.st] [] (D (.bool (validF f)) []) := by
  have hc := f_checked f ho
  have hv := chk_valid f
  generalize chk f 1 (fun _ => []) chk0 = R at *
  generalize validF f = V at *
  obtain ⟨k, ar, nm, vars, args, kids⟩ := f
  refine Tri.enter 9 Tryd.func14 rfl rfl rfl rfl fun Fr w0 => ?_
  repeat' (first | (refine AW.r 0 ?_ <;> (first | refine AL.d (AOp.box_ro (v := .st [.int .i64 k, .int .i64 ar, .str nm, strs vars, strs args, .sl (kids.map GFml.av)]) rfl rfl) ?_ | refine AL.d (AOp.box_ro rfl rfl) ?_) <;> refine AL.es 1 ?_ <;> refine AL.nil ?_) | refine AW.jt ?_ | refine AW.jf ?_ | refine AW.jj (fun hb => ?_) (fun hb => ?_) | refine AW.go ?_ | fail)
  repeat' (first | (refine AW.r 1 ?_ <;> (first | refine AL.d AOp.la ?_ | refine AL.d (AOp.lw 0) ?_) <;> (refine AL.callQ rfl rfl hc rfl ?_ ?_; rotate_left; rintro _ _ ⟨_, _, _, _, _, e, _⟩; cases e; rintro _ _ ⟨b, mb, mf, A, g, e, rfl⟩; injection e with e; subst e) <;> refine AL.es 1 ?_ <;> (first | refine AL.d AOp.fa ?_ | refine AL.d (AOp.fr 4) ?_) <;> (first | refine AL.d AOp.la ?_ | refine AL.d (AOp.ll 0) ?_) <;> refine AL.es 2 ?_ <;> refine AL.nil ?_) | refine AW.jt ?_ | refine AW.jf ?_ | refine AW.jj (fun hb => ?_) (fun hb => ?_) | refine AW.go ?_ | fail)
  exact AW.ret_drop rfl (List.nil_sublist _) ⟨by rw [hv, Bool.not_not], rfl⟩
end Go.Proofs.YtlpndgodkkndnaaDoor
namespace Go.Proofs.YtlpndgodkkndnaaDoor
open Go.RowKit Go.SX
set_option maxRecDepth 100000
set_option maxHeartbeats 4000000
set_option linter.unusedVariables false
set_option linter.unusedSimpArgs false
theorem Clone_str (xs : List ByteArray) (hl : xs.length ≤ 8796093021952) : Tri Tryd.prog 91 [strs xs] [] (D (strs xs) []) := by
  refine Tri.enter 8 Tryd.func91 rfl rfl rfl rfl fun Fr w0 => ?_
  repeat' (first | refine AW.re 0 1 ?_ | refine AW.jt ?_ | refine AW.jf ?_ | refine AW.jj (fun hb => ?_) (fun hb => ?_) | refine AW.go ?_ | fail)
  repeat' (first | (refine AW.r 1 ?_ <;> refine AL.es 1 ?_ <;> (first | refine AL.slice_nil (xs := xs.map AV.str) rfl (by kernel_rfl) rfl fun B hB => ?_ | refine AL.e ?_) <;> refine AL.nil ?_) | refine AW.jt ?_ | refine AW.jf ?_ | refine AW.jj (fun hb => ?_) (fun hb => ?_) | refine AW.go ?_ | fail)
  · have hx : xs = [] := by
      cases xs with
      | nil => rfl
      | cons y l => have h := hB (by simp); rw [h] at hb; cases hb
    subst hx
    repeat' (first | refine AW.re 2 1 ?_ | refine AW.jt ?_ | refine AW.jf ?_ | refine AW.jj (fun hb => ?_) (fun hb => ?_) | refine AW.go ?_ | fail)
    exact AW.retv rfl ⟨rfl, rfl⟩
  · repeat' (first | (refine AW.r 3 ?_ <;> refine AL.lit_own (e := 9) (sz := 1) (by kernel_rfl) rfl rfl rfl P_nil (by decide) rfl fun b0 => ?_ <;> refine AL.es 1 ?_ <;> refine AL.append (i := 0) (e := 9) (sz := 1) (bytes := 16) rfl rfl rfl rfl (by kernel_rfl) (by kernel_rfl) (by repeat' (first | exact P_nil | refine P_app ?_ ?_ | refine P_take ?_ | refine P_drop ?_ | exact P_map fun _ => rfl | exact P_one rfl | exact P_rep rfl)) (by repeat' (first | exact P_nil | refine P_app ?_ ?_ | refine P_take ?_ | refine P_drop ?_ | exact P_map fun _ => rfl | exact P_one rfl | exact P_rep rfl)) (ok_all (by repeat' (first | exact P_nil | refine P_app ?_ ?_ | refine P_take ?_ | refine P_drop ?_ | exact P_map fun _ => rfl | exact P_one rfl | exact P_rep rfl))) (by (try simp only [List.length_append, List.length_map, List.length_take, List.length_drop, List.length_cons, List.length_nil, List.length_replicate]); omega) (by (try simp only [List.length_append, List.length_map, List.length_take, List.length_drop, List.length_cons, List.length_nil, List.length_replicate]); omega) rfl fun b' c' => ?_ <;> refine AL.es 1 ?_ <;> refine AL.nil ?_) | refine AW.jt ?_ | refine AW.jf ?_ | refine AW.jj (fun hb => ?_) (fun hb => ?_) | refine AW.go ?_ | fail)
    refine AW.as_sl 2 rfl ?_
    exact AW.ret_drop rfl (List.nil_sublist _) ⟨rfl, rfl⟩
theorem n_with (f : GFml) (ho : f.Ok) (kids : List GFml) : Tri Tryd.prog 70 [f.st, .sl (kids.map GFml.av)] [] (D ({ f with Kids := kids } : GFml).st []) := by
  obtain ⟨⟨_, _, _, h4, h5⟩, h6, h7⟩ := ho
  have hv := Clone_str f.Vars (by have := h4.1; omega)
  have ha := Clone_str f.Args (by have := h5.1; omega)
  obtain ⟨k, ar, nm, vars, args, kids0⟩ := f
  simp only at *
  refine Tri.enter 16 Tryd.func70 rfl rfl rfl rfl fun Fr w0 => ?_
  repeat' (first | (refine AW.r 0 ?_ <;> refine AL.box rfl rfl rfl fun b => ?_ <;> refine AL.alloc_z (t := 25) (.st [.int .i64 0, .int .i64 0, .str empB, .sl [], .sl [], .sl []]) (by kernel_rfl) rfl rfl fun r => ?_ <;> refine AL.nil ?_) | refine AW.jt ?_ | refine AW.jf ?_ | refine AW.jj (fun hb => ?_) (fun hb => ?_) | refine AW.go ?_ | fail)
  repeat' (first | (refine AW.ex 1 [false, true] [8, 10, 12] ?_ <;> (first | refine AQE.p rfl AOp.fa ?_ | refine AQE.p rfl (AOp.fr 3) ?_) <;> (first | refine AQE.p rfl AOp.la ?_ | refine AQE.p rfl (AOp.ll 0) ?_ | refine AQE.pe rfl (AOp.ll 0) ?_ | refine AQE.p rfl (AOp.ll 1) ?_ | refine AQE.pe rfl (AOp.ll 1) ?_) <;> (first | refine AQE.p rfl (AOp.call rfl rfl (hv.pure _)) ?_ | refine AQE.p rfl (AOp.call rfl rfl (ha.pure _)) ?_) <;> (first | refine AQE.p rfl AOp.fa ?_ | refine AQE.p rfl (AOp.fr 4) ?_) <;> (first | refine AQE.p rfl AOp.la ?_ | refine AQE.p rfl (AOp.ll 0) ?_ | refine AQE.pe rfl (AOp.ll 0) ?_ | refine AQE.p rfl (AOp.ll 1) ?_ | refine AQE.pe rfl (AOp.ll 1) ?_) <;> (first | refine AQE.p rfl (AOp.call rfl rfl (hv.pure _)) ?_ | refine AQE.p rfl (AOp.call rfl rfl (ha.pure _)) ?_) <;> refine AQE.e ?_ <;> (first | refine AQE.p rfl AOp.fa ?_ | refine AQE.p rfl (AOp.fr 3) ?_) <;> refine AQE.hl ?_ <;> (first | refine AQE.p rfl AOp.fa ?_ | refine AQE.p rfl (AOp.fr 4) ?_) <;> refine AQE.hl ?_ <;> (first | refine AQE.p rfl AOp.fa ?_ | refine AQE.p rfl (AOp.fr 5) ?_) <;> refine AQE.hl ?_ <;> refine AQE.nil ?_ <;> refine AX.o (n := 2) 8 ?_ <;> (first | refine AXO.sl 0 fun _ => ?_ | refine AXO.sl 1 fun _ => ?_) <;> try dsimp only [List.set_cons_succ, List.set_cons_zero, List.getD_cons_succ, List.getD_cons_zero] <;> refine AX.o (n := 1) 10 ?_ <;> (first | refine AXO.sl 0 fun _ => ?_ | refine AXO.sl 1 fun _ => ?_) <;> try dsimp only [List.set_cons_succ, List.set_cons_zero, List.getD_cons_succ, List.getD_cons_zero] <;> refine AX.o (n := 0) 12 ?_ <;> (first | refine AXO.sl 0 fun _ => ?_ | refine AXO.sl 1 fun _ => ?_) <;> try dsimp only [List.set_cons_succ, List.set_cons_zero, List.getD_cons_succ, List.getD_cons_zero] <;> refine AX.done_keep [0, 2, 4, 15, 25] ?_) | refine AW.jt ?_ | refine AW.jf ?_ | refine AW.jj (fun hb => ?_) (fun hb => ?_) | refine AW.go ?_ | fail)
  refine AW.prune [2, 4] ?_
  repeat' (first | (refine AW.r 2 ?_ <;> (first | refine AL.d AOp.la ?_ | refine AL.d (AOp.lw 0) ?_ | refine AL.d (AOp.lw 1) ?_) <;> (first | refine AL.sl 0 ?_ | refine AL.sl 1 ?_) <;> refine AL.nil ?_) | refine AW.jt ?_ | refine AW.jf ?_ | refine AW.jj (fun hb => ?_) (fun hb => ?_) | refine AW.go ?_ | fail)
  exact AW.retc (.cell 1 rfl rfl (by kernel_rfl) .nil) (List.nil_sublist _) ⟨rfl, rfl⟩
theorem n_each (f : GFml) (ho : f.Ok) (fid : FuncId) (caps : List AV) (g : GFml → GFml) (hf : ∀ x ∈ f.Kids, Tri Tryd.prog fid (x.st :: caps) [] (D (g x).st [])) :
    Tri Tryd.prog 56 [f.st, .fn fid caps] [] (D ({ f with Kids := f.Kids.map g } : GFml).st []) := by
  have hw := fun kids => n_with f ho kids
  obtain ⟨_, h6, h7⟩ := ho
  obtain ⟨k, ar, nm, vars, args, kids⟩ := f
  simp only at *
  refine Tri.enter 25 Tryd.func56 rfl rfl rfl rfl fun Fr w0 => ?_
  repeat' (first | (refine AW.r 0 ?_ <;> (first | refine AL.d AOp.assign_nil ?_ | refine AL.d (AOp.box_ro (v := .st [.int .i64 k, .int .i64 ar, .str nm, strs vars, strs args, .sl (kids.map GFml.av)]) rfl rfl) ?_) <;> (first | refine AL.alloc_z (t := 25) (.st [.int .i64 0, .int .i64 0, .str empB, .sl [], .sl [], .sl []]) (by kernel_rfl) rfl rfl fun r => ?_ | refine AL.d AOp.assign_nil ?_) <;> refine AL.nil ?_) | (refine AW.r 1 ?_ <;> (first | refine AL.d AOp.assign_nil ?_ | refine AL.e ?_) <;> refine AL.nil ?_) | (refine AW.r 2 ?_ <;> refine AL.es 3 ?_ <;> (first | refine AL.d AOp.assign_nil ?_ | refine AL.e ?_) <;> refine AL.nil ?_) | refine AW.jt ?_ | refine AW.jf ?_ | refine AW.jj (fun hb => ?_) (fun hb => ?_) | refine AW.go ?_ | fail)
  refine AW.own_nil 6 ?_
  refine AW.prune [1, 2, 4, 5, 9, 10, 11] (AW.loop (fun mz af h => ∃ (i : Nat) (o : List GFml) (tt : Option Nat) (cc : Nat), i ≤ kids.length ∧ mz = kids.length - i ∧ af = [(1, .fn fid caps), (2, .at (.st [.int .i64 k, .int .i64 ar, .str nm, strs vars, strs args, .sl (kids.map GFml.av)])), (4, .ref r 0), (5, .slt (o.map GFml.av) tt cc), (9, .sl (kids.map GFml.av)), (10, .int .i64 (kids.map GFml.av).length), (11, .int .i64 i)] ∧ h = [.tail tt (o.map GFml.av).length cc 6, .box r (.st [.int .i64 0, .int .i64 0, .str empB, .sl [], .sl [], .sl []])] ∧ o = (kids.take i).map g) kids.length ⟨0, [], none, 0, Nat.zero_le _, rfl, rfl, rfl, by simp⟩ ?_)
  rintro mz af h ⟨i, o, tt, cc, hi, rfl, rfl, rfl, he⟩
  refine AW.seq ?_
  by_cases hlt : i < kids.length
  · obtain ⟨x, hx⟩ := get_lt hlt
    have hx' : (kids.map GFml.av)[((i : Nat) : Int).toNat]? = some (x.st) := GFml.get hx
    have hc := hf x (List.mem_of_getElem? hx)
    have hol : o.length ≤ 1353245080300 := by rw [he]; simp; omega
    have hm : (o ++ [g x]).map GFml.av = o.map GFml.av ++ [(g x).st] := by simp [GFml.av_eq]
    repeat' (first | refine AW.re 3 1 ?_ | (refine AW.r 4 ?_ <;> refine AL.d (AOp.index_sl rfl rfl (by omega) hx' (by kernel_rfl) rfl) ?_ <;> refine AL.es 1 ?_ <;> refine AL.alloc_store (by kernel_rfl) rfl rfl rfl rfl ?_ <;> refine AL.nil ?_) | refine AW.jt ?_ | refine AW.jf ?_ | refine AW.jj (fun hb => ?_) (fun hb => ?_) | refine AW.go ?_ | fail)
    all_goals try (exfalso; simp only [decide_eq_true_eq, decide_eq_false_iff_not, List.length_map] at *; omega)
    repeat' (first | (refine AW.r 5 ?_ <;> refine AL.es 3 ?_ <;> refine AL.d (AOp.call rfl rfl (hc.pure _)) ?_ <;> refine AL.d (AOp.lit (e := 25) (sz := 6) (by kernel_rfl) rfl rfl rfl (P_one rfl) (by decide)) ?_ <;> refine AL.append (i := 0) (xs := o.map GFml.av) (e := 25) (sz := 6) (bytes := 104) rfl rfl rfl rfl (by kernel_rfl) (by kernel_rfl) (P_map GFml.size_av) (P_one rfl) rfl (by simp only [List.length_map]; simp; omega) (by simp only [List.length_map]; simp; omega) rfl fun b' c' => ?_ <;> refine AL.es 1 ?_ <;> refine AL.nil ?_) | refine AW.jt ?_ | refine AW.jf ?_ | refine AW.jj (fun hb => ?_) (fun hb => ?_) | refine AW.go ?_ | fail)
    refine AW.frame_eq rfl (show _ = [Own.tail b' ((o ++ [g x]).map GFml.av).length c' 6, .box r (.st [.int .i64 0, .int .i64 0, .str empB, .sl [], .sl [], .sl []])] from by rw [hm]; rfl) ?_
    repeat' (first | (refine AW.r 6 ?_ <;> refine AL.d AOp.ad ?_ <;> refine AL.es 1 ?_ <;> refine AL.nil ?_) | refine AW.jt ?_ | refine AW.jf ?_ | refine AW.jj (fun hb => ?_) (fun hb => ?_) | refine AW.go ?_ | fail)
    rw [← hm]
    refine AW.again_keep (kids.length - (i + 1)) [1, 2, 4, 5, 9, 10, 11] (by omega) ⟨i + 1, o ++ [g x], b', c', hlt, rfl, rfl, rfl, ?_⟩
    rw [he, List.take_add_one, hx]; simp
  · have ho2 : o = kids.map g := by rw [he, List.take_of_length_le (by omega)]
    subst ho2
    have hw1 := hw (kids.map g)
    refine AW.as_sl 5 rfl ?_
    repeat' (first | refine AW.re 3 1 ?_ | (refine AW.r 7 ?_ <;> (first | refine AL.d AOp.la ?_ | refine AL.d (AOp.lw 0) ?_ | refine AL.d (AOp.lw 1) ?_) <;> refine AL.es 1 ?_ <;> refine AL.d (AOp.call rfl rfl (hw1.pure _)) ?_ <;> (first | refine AL.sl 0 ?_ | refine AL.sl 1 ?_) <;> refine AL.nil ?_) | refine AW.jt ?_ | refine AW.jf ?_ | refine AW.jj (fun hb => ?_) (fun hb => ?_) | refine AW.go ?_ | fail)
    all_goals try (exfalso; simp only [decide_eq_true_eq, decide_eq_false_iff_not, List.length_map] at *; omega)
    exact AW.retc (.cell 1 rfl rfl (by kernel_rfl) .nil) (List.nil_sublist _) ⟨rfl, rfl⟩
end Go.Proofs.YtlpndgodkkndnaaDoor
namespace Go.Proofs.YtlpndgodkkndnaaDoor
open Go.RowKit Go.SX
set_option maxRecDepth 100000
set_option maxHeartbeats 4000000
set_option linter.unusedVariables false
set_option linter.unusedSimpArgs false
def zF : AV := .st [.int .i64 0, .int .i64 0, .str empB, .sl [], .sl [], .sl []]
def kv4 : List (AV × AV) := [(.int .i64 4, .int .i64 5), (.int .i64 5, .int .i64 4), (.int .i64 6, .int .i64 7), (.int .i64 7, .int .i64 6)]
theorem kv4_miss {k : Int} (h : qk k = false) : mfind (.int .i64 k) kv4 0 = none := by
  simp only [qk, Bool.or_eq_false_iff, beq_eq_false_iff_ne, ne_eq] at h
  obtain ⟨⟨⟨h4, h5⟩, h6⟩, h7⟩ := h
  simp [mfind, kv4, keq, h4, h5, h6, h7]
theorem kv4_hit {k : Int} (h : qk k = true) : ∃ j, mfind (.int .i64 k) kv4 0 = some (j, .int .i64 (oth k)) := by
  simp only [qk, Bool.or_eq_true, beq_iff_eq] at h
  have : k = 4 ∨ k = 5 ∨ k = 6 ∨ k = 7 := by omega
  rcases this with rfl | rfl | rfl | rfl <;> exact ⟨_, rfl⟩
theorem n_nn : ∀ (N : Nat) (f : GFml), ndF f ≤ N → f.Ok → shsF f = true → Tri Tryd.prog 31 [f.st] [] (D (nnF f false).st []) ∧ Tri Tryd.prog 55 [f.st] [] (D (nnF f true).st []) := by
  intro N
  induction N using Nat.strongRecOn with
  | _ N ih =>
    intro f hN ho hsh
    have hnd := ndF_eq f
    rw [shsF_eq, Bool.and_eq_true] at hsh
    have hk3 := shaped_not1 hsh.2
    have hE0 := n_each f ho 31 [] (fun x => nnF x false) fun x hx => (ih (ndF x) (by have := ndFs_mem hx; omega) x (Nat.le_refl _) (by obtain ⟨_, _, h⟩ := ho; exact h x hx) (shsFs_mem hsh.1 hx)).1
    have hE1 := n_each f ho 55 [] (fun x => nnF x true) fun x hx => (ih (ndF x) (by have := ndFs_mem hx; omega) x (Nat.le_refl _) (by obtain ⟨_, _, h⟩ := ho; exact h x hx) (shsFs_mem hsh.1 hx)).2
    have hI := fun x (hx : x ∈ f.Kids) => ih (ndF x) (by have := ndFs_mem hx; omega) x (Nat.le_refl _) (by obtain ⟨_, _, h⟩ := ho; exact h x hx) (shsFs_mem hsh.1 hx)
    have hmap0 := nnL_map false f.Kids
    have hmap1 := nnL_map true f.Kids
    obtain ⟨k, ar, nm, vars, args, kids⟩ := f
    simp only at *
    rw [← hmap0] at hE0
    rw [← hmap1] at hE1
    have hA : Tri Tryd.prog 31 [(⟨k, ar, nm, vars, args, kids⟩ : GFml).st] [] (D (nnF ⟨k, ar, nm, vars, args, kids⟩ false).st []) := by
      rw [nnF]
      cases k3 : k == 3 with
      | true =>
        obtain ⟨h1, _⟩ := hk3 (by simpa using k3)
        obtain rfl : k = 3 := by simpa using k3
        obtain ⟨y, rfl⟩ : ∃ y, kids = [y] := by
          match kids, h1 with
          | [y], _ => exact ⟨y, rfl⟩
        have hy : ([y].map GFml.av)[((0 : Int)).toNat]? = some y.st := by simp [GFml.av_eq]
        have hc := (hI y (by simp)).2
        rw [cond_true, nnH, Bool.not_false]
        refine Tri.enter 13 Tryd.func31 rfl rfl rfl rfl fun Fr w0 => ?_
        repeat' (first | (refine AW.r 0 ?_ <;> (first | refine AL.d (AOp.box_ro (v := .st [.int .i64 3, .int .i64 ar, .str nm, strs vars, strs args, .sl ([y].map GFml.av)]) rfl rfl) ?_ | refine AL.d (AOp.box_ro rfl rfl) ?_) <;> refine AL.alloc_z (t := 25) zF (by kernel_rfl) rfl rfl fun r => ?_ <;> refine AL.nil ?_) | (refine AW.r 1 ?_ <;> (first | refine AL.d AOp.fa ?_ | refine AL.d (AOp.fr 0) ?_) <;> (first | refine AL.d AOp.la ?_ | refine AL.d (AOp.ll 0) ?_) <;> refine AL.es 1 ?_ <;> refine AL.nil ?_) | (refine AW.r 2 ?_ <;> (first | refine AL.d AOp.fa ?_ | refine AL.d (AOp.fr 5) ?_) <;> (first | refine AL.d AOp.la ?_ | refine AL.d (AOp.ll 0) ?_) <;> refine AL.d (AOp.index_sl rfl rfl (by omega) hy (by kernel_rfl) rfl) ?_ <;> (first | refine AL.d AOp.la ?_ | refine AL.d (AOp.lw 0) ?_) <;> refine AL.d (AOp.call rfl rfl (hc.pure _)) ?_ <;> refine AL.sl 0 ?_ <;> refine AL.nil ?_) | refine AW.jt ?_ | refine AW.jf ?_ | refine AW.jj (fun hb => ?_) (fun hb => ?_) | refine AW.go ?_ | fail)
        exact AW.retc (.cell 0 rfl rfl (by kernel_rfl) .nil) (List.nil_sublist _) ⟨rfl, rfl⟩
      | false =>
        rw [cond_false]
        have hr : (bif qk k then (⟨bif false then oth k else k, ar, nm, vars, args, nnL kids false⟩ : GFml) else bif false then ⟨3, 0, empB, [], [], [⟨k, ar, nm, vars, args, nnL kids false⟩]⟩ else ⟨k, ar, nm, vars, args, nnL kids false⟩) = ⟨k, ar, nm, vars, args, nnL kids false⟩ := by cases qk k <;> rfl
        rw [hr]
        refine Tri.enter 13 Tryd.func31 rfl rfl rfl rfl fun Fr w0 => ?_
        repeat' (first | (refine AW.r 0 ?_ <;> (first | refine AL.d (AOp.box_ro (v := .st [.int .i64 k, .int .i64 ar, .str nm, strs vars, strs args, .sl (kids.map GFml.av)]) rfl rfl) ?_ | refine AL.d (AOp.box_ro rfl rfl) ?_) <;> refine AL.alloc_z (t := 25) zF (by kernel_rfl) rfl rfl fun r => ?_ <;> refine AL.nil ?_) | (refine AW.r 1 ?_ <;> (first | refine AL.d AOp.fa ?_ | refine AL.d (AOp.fr 0) ?_) <;> (first | refine AL.d AOp.la ?_ | refine AL.d (AOp.ll 0) ?_) <;> refine AL.es 1 ?_ <;> refine AL.nil ?_) | (refine AW.r 3 ?_ <;> (first | refine AL.d AOp.la ?_ | refine AL.d (AOp.lw 0) ?_) <;> refine AL.d (AOp.call rfl rfl (hE0.pure _)) ?_ <;> refine AL.sl 0 ?_ <;> refine AL.nil ?_) | refine AW.jt ?_ | refine AW.jf ?_ | refine AW.jj (fun hb => ?_) (fun hb => ?_) | refine AW.go ?_ | fail)
        all_goals try (exfalso; rw [k3] at hb; exact Bool.noConfusion hb)
        exact AW.retc (.cell 0 rfl rfl (by kernel_rfl) .nil) (List.nil_sublist _) ⟨rfl, rfl⟩
    refine ⟨hA, ?_⟩
    rw [nnF] at hA ⊢
    cases k3 : k == 3 with
    | true =>
      obtain ⟨h1, _⟩ := hk3 (by simpa using k3)
      obtain rfl : k = 3 := by simpa using k3
      obtain ⟨y, rfl⟩ : ∃ y, kids = [y] := by
        match kids, h1 with
        | [y], _ => exact ⟨y, rfl⟩
      have hy : ([y].map GFml.av)[((0 : Int)).toNat]? = some y.st := by simp [GFml.av_eq]
      have hc := (hI y (by simp)).1
      rw [cond_true, nnH, Bool.not_true]
      refine Tri.enter 34 Tryd.func55 rfl rfl rfl rfl fun Fr w0 => ?_
      repeat' (first | (refine AW.r 0 ?_ <;> (first | refine AL.d (AOp.box_ro (v := .st [.int .i64 3, .int .i64 ar, .str nm, strs vars, strs args, .sl ([y].map GFml.av)]) rfl rfl) ?_ | refine AL.d (AOp.box_ro rfl rfl) ?_) <;> refine AL.alloc_z (t := 25) zF (by kernel_rfl) rfl rfl fun r => ?_ <;> refine AL.nil ?_) | (refine AW.r 1 ?_ <;> refine AL.makeMap rfl fun bm => ?_ <;> refine AL.insert (i := 0) (kd := .int .i64) (e := 3) rfl rfl rfl rfl (by kernel_rfl) rfl rfl ?_ <;> refine AL.insert (i := 0) (kd := .int .i64) (e := 3) rfl rfl rfl rfl (by kernel_rfl) rfl rfl ?_ <;> refine AL.insert (i := 0) (kd := .int .i64) (e := 3) rfl rfl rfl rfl (by kernel_rfl) rfl rfl ?_ <;> refine AL.insert (i := 0) (kd := .int .i64) (e := 3) rfl rfl rfl rfl (by kernel_rfl) rfl rfl ?_ <;> refine AL.es 2 ?_ <;> refine AL.nil ?_) | (refine AW.r 2 ?_ <;> (first | refine AL.d AOp.fa ?_ | refine AL.d (AOp.fr 0) ?_) <;> (first | refine AL.d AOp.la ?_ | refine AL.d (AOp.ll 0) ?_ | refine AL.d (AOp.ll 1) ?_) <;> refine AL.es 1 ?_ <;> refine AL.nil ?_) | (refine AW.r 3 ?_ <;> (first | refine AL.d AOp.fa ?_ | refine AL.d (AOp.fr 5) ?_) <;> (first | refine AL.d AOp.la ?_ | refine AL.d (AOp.ll 0) ?_ | refine AL.d (AOp.ll 1) ?_) <;> refine AL.d (AOp.index_sl rfl rfl (by omega) hy (by kernel_rfl) rfl) ?_ <;> (first | refine AL.d AOp.la ?_ | refine AL.d (AOp.lw 0) ?_ | refine AL.d (AOp.lw 1) ?_) <;> refine AL.d (AOp.call rfl rfl (hc.pure _)) ?_ <;> (first | refine AL.sl 0 ?_ | refine AL.sl 1 ?_) <;> refine AL.nil ?_) | refine AW.jt ?_ | refine AW.jf ?_ | refine AW.jj (fun hb => ?_) (fun hb => ?_) | refine AW.go ?_ | fail)
      exact AW.retc (.cell 1 rfl rfl (by kernel_rfl) .nil) (List.nil_sublist _) ⟨rfl, rfl⟩
    | false =>
      rw [cond_false]
      rw [k3, cond_false] at hA
      cases hq : qk k with
      | true =>
        obtain ⟨j, hj⟩ := kv4_hit hq
        rw [cond_true, cond_true]
        refine Tri.enter 34 Tryd.func55 rfl rfl rfl rfl fun Fr w0 => ?_
        repeat' (first | (refine AW.r 0 ?_ <;> (first | refine AL.d (AOp.box_ro (v := .st [.int .i64 k, .int .i64 ar, .str nm, strs vars, strs args, .sl (kids.map GFml.av)]) rfl rfl) ?_ | refine AL.d (AOp.box_ro rfl rfl) ?_) <;> refine AL.alloc_z (t := 25) zF (by kernel_rfl) rfl rfl fun r => ?_ <;> refine AL.nil ?_) | (refine AW.r 1 ?_ <;> refine AL.makeMap rfl fun bm => ?_ <;> refine AL.insert (i := 0) (kd := .int .i64) (e := 3) rfl rfl rfl rfl (by kernel_rfl) rfl rfl ?_ <;> refine AL.insert (i := 0) (kd := .int .i64) (e := 3) rfl rfl rfl rfl (by kernel_rfl) rfl rfl ?_ <;> refine AL.insert (i := 0) (kd := .int .i64) (e := 3) rfl rfl rfl rfl (by kernel_rfl) rfl rfl ?_ <;> refine AL.insert (i := 0) (kd := .int .i64) (e := 3) rfl rfl rfl rfl (by kernel_rfl) rfl rfl ?_ <;> refine AL.es 2 ?_ <;> refine AL.nil ?_) | (refine AW.r 2 ?_ <;> (first | refine AL.d AOp.fa ?_ | refine AL.d (AOp.fr 0) ?_) <;> (first | refine AL.d AOp.la ?_ | refine AL.d (AOp.ll 0) ?_ | refine AL.d (AOp.ll 1) ?_) <;> refine AL.es 1 ?_ <;> refine AL.nil ?_) | refine AW.jt ?_ | refine AW.jf ?_ | refine AW.jj (fun hb => ?_) (fun hb => ?_) | refine AW.go ?_ | fail)
        all_goals try (exfalso; rw [k3] at hb; exact Bool.noConfusion hb)
        repeat' (first | (refine AW.r 4 ?_ <;> refine AL.es 1 ?_ <;> (first | refine AL.d AOp.fa ?_ | refine AL.d (AOp.fr 0) ?_) <;> (first | refine AL.d AOp.la ?_ | refine AL.d (AOp.ll 0) ?_ | refine AL.d (AOp.ll 1) ?_ | refine AL.d (AOp.ll 2) ?_) <;> refine AL.d (AOp.lookup_hit (i := 0) (kd := .int .i64) (e := 3) (ok := true) rfl rfl rfl (by kernel_rfl) rfl rfl hj) ?_ <;> refine AL.es 5 ?_ <;> refine AL.nil ?_) | refine AW.re 5 1 ?_ | (refine AW.r 6 ?_ <;> (first | refine AL.d AOp.la ?_ | refine AL.d (AOp.lw 0) ?_ | refine AL.d (AOp.lw 1) ?_ | refine AL.d (AOp.lw 2) ?_) <;> refine AL.d (AOp.call rfl rfl (hE1.pure _)) ?_ <;> refine AL.alloc_z (t := 25) zF (by kernel_rfl) rfl rfl fun r2 => ?_ <;> (first | refine AL.sl 0 ?_ | refine AL.sl 1 ?_ | refine AL.sl 2 ?_) <;> refine AL.nil ?_) | (refine AW.r 7 ?_ <;> refine AL.es 1 ?_ <;> (first | refine AL.d AOp.fa ?_ | refine AL.d (AOp.fr 0) ?_) <;> (first | refine AL.sl 0 ?_ | refine AL.sl 1 ?_ | refine AL.sl 2 ?_) <;> refine AL.nil ?_) | (refine AW.r 8 ?_ <;> (first | refine AL.d AOp.la ?_ | refine AL.d (AOp.lw 0) ?_ | refine AL.d (AOp.lw 1) ?_ | refine AL.d (AOp.lw 2) ?_) <;> (first | refine AL.sl 0 ?_ | refine AL.sl 1 ?_ | refine AL.sl 2 ?_) <;> refine AL.nil ?_) | refine AW.jt ?_ | refine AW.jf ?_ | refine AW.jj (fun hb => ?_) (fun hb => ?_) | refine AW.go ?_ | fail)
        exact AW.retc (.cell 2 rfl rfl (by kernel_rfl) .nil) (List.nil_sublist _) ⟨rfl, rfl⟩
      | false =>
        rw [cond_false, cond_true]
        rw [hq, cond_false, cond_false] at hA
        refine Tri.enter 34 Tryd.func55 rfl rfl rfl rfl fun Fr w0 => ?_
        repeat' (first | (refine AW.r 0 ?_ <;> (first | refine AL.d (AOp.box_ro (v := .st [.int .i64 k, .int .i64 ar, .str nm, strs vars, strs args, .sl (kids.map GFml.av)]) rfl rfl) ?_ | refine AL.d (AOp.box_ro rfl rfl) ?_) <;> refine AL.alloc_z (t := 25) zF (by kernel_rfl) rfl rfl fun r => ?_ <;> refine AL.nil ?_) | (refine AW.r 1 ?_ <;> refine AL.makeMap rfl fun bm => ?_ <;> refine AL.insert (i := 0) (kd := .int .i64) (e := 3) rfl rfl rfl rfl (by kernel_rfl) rfl rfl ?_ <;> refine AL.insert (i := 0) (kd := .int .i64) (e := 3) rfl rfl rfl rfl (by kernel_rfl) rfl rfl ?_ <;> refine AL.insert (i := 0) (kd := .int .i64) (e := 3) rfl rfl rfl rfl (by kernel_rfl) rfl rfl ?_ <;> refine AL.insert (i := 0) (kd := .int .i64) (e := 3) rfl rfl rfl rfl (by kernel_rfl) rfl rfl ?_ <;> refine AL.es 2 ?_ <;> refine AL.nil ?_) | (refine AW.r 2 ?_ <;> (first | refine AL.d AOp.fa ?_ | refine AL.d (AOp.fr 0) ?_) <;> (first | refine AL.d AOp.la ?_ | refine AL.d (AOp.ll 0) ?_ | refine AL.d (AOp.ll 1) ?_) <;> refine AL.es 1 ?_ <;> refine AL.nil ?_) | refine AW.jt ?_ | refine AW.jf ?_ | refine AW.jj (fun hb => ?_) (fun hb => ?_) | refine AW.go ?_ | fail)
        all_goals try (exfalso; rw [k3] at hb; exact Bool.noConfusion hb)
        repeat' (first | (refine AW.r 4 ?_ <;> refine AL.es 1 ?_ <;> (first | refine AL.d AOp.fa ?_ | refine AL.d (AOp.fr 0) ?_) <;> (first | refine AL.d AOp.la ?_ | refine AL.d (AOp.ll 0) ?_ | refine AL.d (AOp.ll 1) ?_) <;> refine AL.d (AOp.lookup_miss (i := 0) (kd := .int .i64) (e := 3) (.int .i64 0) (ok := true) rfl rfl rfl (by kernel_rfl) (by kernel_rfl) rfl rfl (kv4_miss hq)) ?_ <;> refine AL.es 5 ?_ <;> refine AL.nil ?_) | refine AW.re 5 1 ?_ | (refine AW.r 9 ?_ <;> (first | refine AL.d AOp.la ?_ | refine AL.d (AOp.lw 0) ?_ | refine AL.d (AOp.lw 1) ?_) <;> refine AL.d (AOp.call rfl rfl (hA.pure _)) ?_ <;> refine AL.d (AOp.lit (e := 25) (sz := 6) (by kernel_rfl) rfl rfl rfl (P_one rfl) (by decide)) ?_ <;> refine AL.d (AOp.build (pl := [(0, 1), (1, 1), (2, 1), (3, 1), (4, 1), (5, 1)]) (z := .st [.int .i64 0, .int .i64 0, .str ⟨#[]⟩, .sl [], .sl [], .sl []]) (by kernel_rfl) rfl rfl rfl) ?_ <;> (first | refine AL.sl 0 ?_ | refine AL.sl 1 ?_) <;> refine AL.nil ?_) | refine AW.jt ?_ | refine AW.jf ?_ | refine AW.jj (fun hb => ?_) (fun hb => ?_) | refine AW.go ?_ | fail)
        refine AW.retc (.cell 1 rfl rfl (by kernel_rfl) .nil) (List.nil_sublist _) ⟨?_, rfl⟩
        simp [GFml.st, GFml.av_eq, resv, strs]
        exact ⟨rfl, rfl⟩
end Go.Proofs.YtlpndgodkkndnaaDoor
namespace Go.Proofs.YtlpndgodkkndnaaDoor
open Go.RowKit Go.SX
set_option maxRecDepth 100000
set_option maxHeartbeats 4000000
set_option linter.unusedVariables false
set_option linter.unusedSimpArgs false
def noF : GFml := ⟨0, 0, empB, [], [], []⟩
theorem noF_ok : noF.Ok := .mk ⟨rfl, rfl, by show (0 : Nat) ≤ _; omega, lenOk_nil _ _, lenOk_nil _ _⟩ (by show 0 * 104 ≤ _; omega) (fun x hx => by cases hx)
def fitF (f : GFml) : GFml × Int := bif validF f then (f, 0) else (noF, 5)
theorem n_fit (f : GFml) (ho : f.Ok) : Tri Tryd.prog 30 [f.st] [] (D (.tup [(fitF f).1.st, .int .i64 (fitF f).2]) []) := by
  have hv := f_Valid f ho
  unfold fitF
  generalize validF f = V at *
  obtain ⟨k, ar, nm, vars, args, kids⟩ := f
  cases V with
  | true =>
    refine Tri.enter 9 Tryd.func30 rfl rfl rfl rfl fun Fr w0 => ?_
    repeat' (first | (refine AW.r 0 ?_ <;> (first | refine AL.d (AOp.box_ro (v := .st [.int .i64 k, .int .i64 ar, .str nm, strs vars, strs args, .sl (kids.map GFml.av)]) rfl rfl) ?_ | refine AL.d (AOp.box_ro rfl rfl) ?_) <;> refine AL.alloc_z (t := 25) zF (by kernel_rfl) rfl rfl fun r => ?_ <;> refine AL.es 1 ?_ <;> refine AL.nil ?_) | (refine AW.r 1 ?_ <;> (first | refine AL.d AOp.la ?_ | refine AL.d (AOp.lw 0) ?_) <;> refine AL.d (AOp.call rfl rfl (hv.pure _)) ?_ <;> refine AL.es 1 ?_ <;> refine AL.nil ?_) | (refine AW.r 3 ?_ <;> (first | refine AL.d AOp.la ?_ | refine AL.d (AOp.lw 0) ?_) <;> refine AL.sl 0 ?_ <;> refine AL.es 1 ?_ <;> refine AL.nil ?_) | refine AW.jt ?_ | refine AW.jf ?_ | refine AW.jj (fun hb => ?_) (fun hb => ?_) | refine AW.go ?_ | fail)
    exact AW.retc (.cell 0 rfl rfl (by kernel_rfl) (.tmp rfl .nil)) (List.nil_sublist _) ⟨rfl, rfl⟩
  | false =>
    refine Tri.enter 9 Tryd.func30 rfl rfl rfl rfl fun Fr w0 => ?_
    repeat' (first | (refine AW.r 0 ?_ <;> (first | refine AL.d (AOp.box_ro (v := .st [.int .i64 k, .int .i64 ar, .str nm, strs vars, strs args, .sl (kids.map GFml.av)]) rfl rfl) ?_ | refine AL.d (AOp.box_ro rfl rfl) ?_) <;> refine AL.alloc_z (t := 25) zF (by kernel_rfl) rfl rfl fun r => ?_ <;> refine AL.es 1 ?_ <;> refine AL.nil ?_) | (refine AW.r 1 ?_ <;> (first | refine AL.d AOp.la ?_ | refine AL.d (AOp.lw 0) ?_) <;> refine AL.d (AOp.call rfl rfl (hv.pure _)) ?_ <;> refine AL.es 1 ?_ <;> refine AL.nil ?_) | (refine AW.r 2 ?_ <;> refine AL.d (AOp.build (pl := [(0, 1), (1, 1), (2, 1), (3, 1), (4, 1), (5, 1)]) (z := .st [.int .i64 0, .int .i64 0, .str ⟨#[]⟩, .sl [], .sl [], .sl []]) (by kernel_rfl) rfl rfl rfl) ?_ <;> refine AL.sl 0 ?_ <;> refine AL.es 1 ?_ <;> refine AL.nil ?_) | refine AW.jt ?_ | refine AW.jf ?_ | refine AW.jj (fun hb => ?_) (fun hb => ?_) | refine AW.go ?_ | fail)
    exact AW.retc (.cell 0 rfl rfl (by kernel_rfl) (.tmp rfl .nil)) (List.nil_sublist _) ⟨rfl, rfl⟩
theorem validF_shs {f : GFml} (h : validF f = true) : shsF f = true := by
  unfold validF at h
  simp only [Bool.and_eq_true] at h
  exact h.1.1.1.2
def nnfP (f : GFml) : GFml × Int := bif validF f then fitF (nnF f false) else (noF, 1)
theorem n_Nnf (f : GFml) (ho : f.Ok) : Tri Tryd.prog 10 [f.st] [] (D (.tup [(nnfP f).1.st, .int .i64 (nnfP f).2]) []) := by
  have hv := f_Valid f ho
  have hF := n_fit (nnF f false) (nn_ok f false ho)
  have hN := fun h => (n_nn _ f (Nat.le_refl _) ho (validF_shs h)).1
  unfold nnfP
  generalize fitF (nnF f false) = R at *
  generalize nnF f false = g at *
  generalize validF f = V at *
  obtain ⟨R1, R2⟩ := R
  obtain ⟨k, ar, nm, vars, args, kids⟩ := f
  cases V with
  | true =>
    have hN' := hN rfl
    refine Tri.enter 13 Tryd.func10 rfl rfl rfl rfl fun Fr w0 => ?_
    repeat' (first | (refine AW.r 0 ?_ <;> (first | refine AL.d (AOp.box_ro (v := .st [.int .i64 k, .int .i64 ar, .str nm, strs vars, strs args, .sl (kids.map GFml.av)]) rfl rfl) ?_ | refine AL.d (AOp.box_ro rfl rfl) ?_) <;> refine AL.alloc_z (t := 25) zF (by kernel_rfl) rfl rfl fun r => ?_ <;> refine AL.es 1 ?_ <;> refine AL.nil ?_) | (refine AW.r 1 ?_ <;> (first | refine AL.d AOp.la ?_ | refine AL.d (AOp.lw 0) ?_) <;> (first | refine AL.d (AOp.call rfl rfl (hv.pure _)) ?_ | refine AL.d (AOp.call rfl rfl (hN'.pure _)) ?_ | refine AL.d (AOp.call rfl rfl (hF.pure _)) ?_) <;> refine AL.es 1 ?_ <;> refine AL.nil ?_) | (refine AW.r 3 ?_ <;> (first | refine AL.d AOp.la ?_ | refine AL.d (AOp.lw 0) ?_) <;> (first | refine AL.d (AOp.call rfl rfl (hv.pure _)) ?_ | refine AL.d (AOp.call rfl rfl (hN'.pure _)) ?_ | refine AL.d (AOp.call rfl rfl (hF.pure _)) ?_) <;> (first | refine AL.d (AOp.call rfl rfl (hv.pure _)) ?_ | refine AL.d (AOp.call rfl rfl (hN'.pure _)) ?_ | refine AL.d (AOp.call rfl rfl (hF.pure _)) ?_) <;> refine AL.es 2 ?_ <;> refine AL.sl 0 ?_ <;> refine AL.es 1 ?_ <;> refine AL.nil ?_) | refine AW.jt ?_ | refine AW.jf ?_ | refine AW.jj (fun hb => ?_) (fun hb => ?_) | refine AW.go ?_ | fail)
    exact AW.retc (.cell 0 rfl rfl (by kernel_rfl) (.tmp rfl .nil)) (List.nil_sublist _) ⟨rfl, rfl⟩
  | false =>
    refine Tri.enter 13 Tryd.func10 rfl rfl rfl rfl fun Fr w0 => ?_
    repeat' (first | (refine AW.r 0 ?_ <;> (first | refine AL.d (AOp.box_ro (v := .st [.int .i64 k, .int .i64 ar, .str nm, strs vars, strs args, .sl (kids.map GFml.av)]) rfl rfl) ?_ | refine AL.d (AOp.box_ro rfl rfl) ?_) <;> refine AL.alloc_z (t := 25) zF (by kernel_rfl) rfl rfl fun r => ?_ <;> refine AL.es 1 ?_ <;> refine AL.nil ?_) | (refine AW.r 1 ?_ <;> (first | refine AL.d AOp.la ?_ | refine AL.d (AOp.lw 0) ?_) <;> refine AL.d (AOp.call rfl rfl (hv.pure _)) ?_ <;> refine AL.es 1 ?_ <;> refine AL.nil ?_) | (refine AW.r 2 ?_ <;> refine AL.d (AOp.build (pl := [(0, 1), (1, 1), (2, 1), (3, 1), (4, 1), (5, 1)]) (z := .st [.int .i64 0, .int .i64 0, .str ⟨#[]⟩, .sl [], .sl [], .sl []]) (by kernel_rfl) rfl rfl rfl) ?_ <;> refine AL.sl 0 ?_ <;> refine AL.es 1 ?_ <;> refine AL.nil ?_) | refine AW.jt ?_ | refine AW.jf ?_ | refine AW.jj (fun hb => ?_) (fun hb => ?_) | refine AW.go ?_ | fail)
    exact AW.retc (.cell 0 rfl rfl (by kernel_rfl) (.tmp rfl .nil)) (List.nil_sublist _) ⟨rfl, rfl⟩
end Go.Proofs.YtlpndgodkkndnaaDoor
namespace Go.Proofs.YtlpndgodkkndnaaDoor
open Go.RowKit Go.SX
set_option maxRecDepth 100000
set_option maxHeartbeats 4000000
set_option linter.unusedVariables false
set_option linter.unusedSimpArgs false
theorem ref_Nnf : ∀ (N : Nat) (f : GFml) (nt : Bool), ndF f ≤ N → f.Ok → shsF f = true → Tri Tryd.prog 13 [f.st, .bool nt] [] (D (nnF f nt).st []) := by
  intro N
  induction N using Nat.strongRecOn with
  | _ N ih =>
    intro f nt hN ho hsh
    have hnd := ndF_eq f
    rw [shsF_eq, Bool.and_eq_true] at hsh
    have hk3 := shaped_not1 hsh.2
    obtain ⟨_, q6, q7⟩ := ho
    have hI := fun x (hx : x ∈ f.Kids) nt => ih (ndF x) (by have := ndFs_mem hx; omega) x nt (Nat.le_refl _) (q7 x hx) (shsFs_mem hsh.1 hx)
    obtain ⟨k, ar, nm, vars, args, kids⟩ := f
    simp only at *
    rw [nnF]
    refine Tri.enter 80 Tryd.func13 rfl rfl rfl rfl fun Fr w0 => ?_
    repeat' (first | (refine AW.r 0 ?_ <;> (first | refine AL.d (AOp.box_ro (v := .st [.int .i64 k, .int .i64 ar, .str nm, strs vars, strs args, .sl (kids.map GFml.av)]) rfl rfl) ?_ | refine AL.d (AOp.box_ro rfl rfl) ?_) <;> refine AL.alloc_z (t := 25) zF (by kernel_rfl) rfl rfl fun r => ?_ <;> refine AL.nil ?_) | refine AW.jt ?_ | refine AW.jf ?_ | refine AW.jj (fun hb => ?_) (fun hb => ?_) | refine AW.go ?_ | fail)
    repeat' (first | (refine AW.r 1 ?_ <;> (first | refine AL.d AOp.la ?_ | refine AL.d (AOp.lw 0) ?_) <;> refine AL.alloc_z (t := 25) zF (by kernel_rfl) rfl rfl fun r5 => ?_ <;> refine AL.sl 0 ?_ <;> refine AL.nil ?_) | refine AW.jt ?_ | refine AW.jf ?_ | refine AW.jj (fun hb => ?_) (fun hb => ?_) | refine AW.go ?_ | fail)
    repeat' (first | (refine AW.r 2 ?_ <;> (first | refine AL.d AOp.fa ?_ | refine AL.d (AOp.fr 5) ?_) <;> (first | refine AL.store_nil 0 rfl rfl rfl (by kernel_rfl) ?_ | refine AL.sl 0 ?_) <;> refine AL.nil ?_) | refine AW.jt ?_ | refine AW.jf ?_ | refine AW.jj (fun hb => ?_) (fun hb => ?_) | fail)
    refine AW.seq ?_
    refine AW.cut (fun af ah => qk k = true ∧ af = [(1, .bool nt), (2, .at (.st [.int .i64 k, .int .i64 ar, .str nm, strs vars, strs args, .sl (kids.map GFml.av)])), (4, .ref r 0), (5, .ref r5 0)] ∧ ah = [.box r5 (.st [.int .i64 (bif nt then oth k else k), .int .i64 ar, .str nm, strs vars, strs args, .slt [] none 0]), .box r zF]) ?_ ?_
    · cases k3 : k == 3 with
      | true =>
        obtain ⟨h1, _⟩ := hk3 (by simpa using k3)
        obtain rfl : k = 3 := by simpa using k3
        obtain ⟨y, rfl⟩ : ∃ y, kids = [y] := by
          match kids, h1 with
          | [y], _ => exact ⟨y, rfl⟩
        have hy : ([y].map GFml.av)[((0 : Int)).toNat]? = some y.st := by simp [GFml.av_eq]
        have hc := hI y (by simp) (!nt)
        rw [cond_true, nnH]
        repeat' (first | (refine AW.r 3 ?_ <;> (first | refine AL.d AOp.fa ?_ | refine AL.d (AOp.fr 0) ?_) <;> (first | refine AL.d AOp.la ?_ | refine AL.d (AOp.ll 0) ?_ | refine AL.d (AOp.ll 1) ?_) <;> refine AL.nil ?_) | refine AW.re 11 2 ?_ | (refine AW.r 12 ?_ <;> (first | refine AL.d AOp.fa ?_ | refine AL.d (AOp.fr 5) ?_) <;> (first | refine AL.d AOp.la ?_ | refine AL.d (AOp.ll 0) ?_ | refine AL.d (AOp.ll 1) ?_) <;> refine AL.d (AOp.index_sl rfl rfl (by omega) hy (by kernel_rfl) rfl) ?_ <;> (first | refine AL.d AOp.la ?_ | refine AL.d (AOp.lw 0) ?_ | refine AL.d (AOp.lw 1) ?_) <;> refine AL.es 2 ?_ <;> refine AL.d (AOp.call rfl rfl (hc.pure _)) ?_ <;> (first | refine AL.sl 0 ?_ | refine AL.sl 1 ?_) <;> refine AL.nil ?_) | refine AW.jt ?_ | refine AW.jf ?_ | refine AW.jj (fun hb => ?_) (fun hb => ?_) | refine AW.go ?_ | fail)
        exact AW.retc (.cell 1 rfl rfl (by kernel_rfl) .nil) (List.nil_sublist _) ⟨rfl, rfl⟩
      | false =>
        rw [cond_false]
        cases hq : qk k with
        | true =>
          have h4 : k = 4 ∨ k = 5 ∨ k = 6 ∨ k = 7 := by simp only [qk, Bool.or_eq_true, beq_iff_eq] at hq; omega
          rcases h4 with rfl | rfl | rfl | rfl <;> cases nt
          all_goals (skip) <;> repeat' (first | (refine AW.r 3 ?_ <;> (first | refine AL.d AOp.fa ?_ | refine AL.d (AOp.fr 0) ?_) <;> (first | refine AL.d AOp.la ?_ | refine AL.d (AOp.ll 0) ?_ | refine AL.d (AOp.ll 1) ?_) <;> refine AL.nil ?_) | refine AW.re 11 2 ?_ | refine AW.re 13 2 ?_ | refine AW.re 14 2 ?_ | refine AW.re 15 1 ?_ | (refine AW.r 16 ?_ <;> (first | refine AL.d AOp.fa ?_ | refine AL.d (AOp.fr 0) ?_) <;> (first | refine AL.d AOp.la ?_ | refine AL.d (AOp.ll 0) ?_ | refine AL.d (AOp.ll 1) ?_) <;> refine AL.d AOp.sb ?_ <;> (first | refine AL.d AOp.fa ?_ | refine AL.d (AOp.fr 0) ?_) <;> (first | refine AL.sl 0 ?_ | refine AL.sl 1 ?_) <;> refine AL.nil ?_) | refine AW.re 17 2 ?_ | refine AW.re 18 2 ?_ | refine AW.re 19 1 ?_ | (refine AW.r 20 ?_ <;> (first | refine AL.d AOp.fa ?_ | refine AL.d (AOp.fr 0) ?_) <;> (first | refine AL.d AOp.la ?_ | refine AL.d (AOp.ll 0) ?_ | refine AL.d (AOp.ll 1) ?_) <;> refine AL.d AOp.sb ?_ <;> (first | refine AL.d AOp.fa ?_ | refine AL.d (AOp.fr 0) ?_) <;> (first | refine AL.sl 0 ?_ | refine AL.sl 1 ?_) <;> refine AL.nil ?_) | refine AW.jt ?_ | refine AW.jf ?_ | refine AW.jj (fun hb => ?_) (fun hb => ?_) | refine AW.go ?_ | fail)
          all_goals exact AW.meet [1, 2, 4, 5] ⟨rfl, rfl, rfl⟩
        | false =>
          rw [cond_false]
          have hq2 := hq
          simp only [qk, Bool.or_eq_false_iff] at hq2
          obtain ⟨⟨⟨k4, k5⟩, k6⟩, k7⟩ := hq2
          repeat' (first | (refine AW.r 3 ?_ <;> (first | refine AL.d AOp.fa ?_ | refine AL.d (AOp.fr 0) ?_) <;> (first | refine AL.d AOp.la ?_ | refine AL.d (AOp.ll 0) ?_ | refine AL.d (AOp.ll 1) ?_) <;> refine AL.nil ?_) | refine AW.re 11 2 ?_ | refine AW.jt ?_ | refine AW.jf ?_ | refine AW.jj (fun hb => ?_) (fun hb => ?_) | refine AW.go ?_ | fail)
          all_goals try (exfalso; clear ih hI hk3; simp_all only [reduceCtorEq]; done)
          repeat' (first | refine AW.re 13 2 ?_ | refine AW.jt ?_ | refine AW.jf ?_ | refine AW.jj (fun hb => ?_) (fun hb => ?_) | refine AW.go ?_ | fail)
          all_goals try (exfalso; clear ih hI hk3; simp_all only [reduceCtorEq]; done)
          repeat' (first | refine AW.re 14 2 ?_ | refine AW.jt ?_ | refine AW.jf ?_ | refine AW.jj (fun hb => ?_) (fun hb => ?_) | refine AW.go ?_ | fail)
          all_goals try (exfalso; clear ih hI hk3; simp_all only [reduceCtorEq]; done)
          repeat' (first | refine AW.re 17 2 ?_ | refine AW.jt ?_ | refine AW.jf ?_ | refine AW.jj (fun hb => ?_) (fun hb => ?_) | refine AW.go ?_ | fail)
          all_goals try (exfalso; clear ih hI hk3; simp_all only [reduceCtorEq]; done)
          repeat' (first | refine AW.re 18 2 ?_ | refine AW.jt ?_ | refine AW.jf ?_ | refine AW.jj (fun hb => ?_) (fun hb => ?_) | refine AW.go ?_ | fail)
          all_goals try (exfalso; clear ih hI hk3; simp_all only [reduceCtorEq]; done)
          refine AW.own_nil 6 ?_
          repeat' (first | refine AW.re 4 1 ?_ | refine AW.jt ?_ | refine AW.jf ?_ | refine AW.jj (fun hb => ?_) (fun hb => ?_) | refine AW.go ?_ | fail)
          refine AW.prune [1, 2, 4, 5, 6] (AW.loop (fun mz af h => ∃ (i : Nat) (o : List GFml) (tt : Option Nat) (cc : Nat), i ≤ kids.length ∧ mz = kids.length - i ∧ af = [(1, .bool nt), (2, .at (.st [.int .i64 k, .int .i64 ar, .str nm, strs vars, strs args, .sl (kids.map GFml.av)])), (4, .ref r 0), (5, .ref r5 0), (6, .int .i64 i)] ∧ h = [.tail tt (o.map GFml.av).length cc 6, .box r5 (.st [.int .i64 k, .int .i64 ar, .str nm, strs vars, strs args, .slt (o.map GFml.av) tt cc]), .box r zF] ∧ o = (kids.take i).map (fun x => nnF x false)) kids.length ⟨0, [], none, 0, Nat.zero_le _, rfl, rfl, rfl, by simp⟩ ?_)
          rintro mz af h ⟨i, o, tt, cc, hi, rfl, rfl, rfl, he⟩
          refine AW.seq ?_
          by_cases hlt : i < kids.length
          · obtain ⟨x, hx⟩ := get_lt hlt
            have hx' : (kids.map GFml.av)[((i : Nat) : Int).toNat]? = some (x.st) := GFml.get hx
            have hc := hI x (List.mem_of_getElem? hx) false
            have hol : o.length ≤ 1353245080300 := by rw [he]; simp; omega
            have hm : (o ++ [nnF x false]).map GFml.av = o.map GFml.av ++ [(nnF x false).st] := by simp [GFml.av_eq]
            repeat' (first | refine AW.re 5 5 ?_ | refine AW.jt ?_ | refine AW.jf ?_ | refine AW.jj (fun hb => ?_) (fun hb => ?_) | refine AW.go ?_ | fail)
            all_goals try (exfalso; simp only [decide_eq_true_eq, decide_eq_false_iff_not, List.length_map] at *; omega)
            repeat' (first | (refine AW.ex 7 [true, true] [9, 11] ?_ <;> (first | refine AQE.p rfl AOp.fa ?_ | refine AQE.p rfl (AOp.fr 5) ?_) <;> (first | refine AQE.p rfl AOp.la ?_ | refine AQE.p rfl (AOp.ll 0) ?_ | refine AQE.pe rfl (AOp.ll 0) ?_ | refine AQE.p rfl (AOp.ll 1) ?_ | refine AQE.pe rfl (AOp.ll 1) ?_ | refine AQE.p rfl (AOp.ll 2) ?_ | refine AQE.pe rfl (AOp.ll 2) ?_) <;> (first | refine AQE.p rfl AOp.fa ?_ | refine AQE.p rfl (AOp.fr 5) ?_) <;> (first | refine AQE.p rfl AOp.la ?_ | refine AQE.p rfl (AOp.ll 0) ?_ | refine AQE.pe rfl (AOp.ll 0) ?_ | refine AQE.p rfl (AOp.ll 1) ?_ | refine AQE.pe rfl (AOp.ll 1) ?_ | refine AQE.p rfl (AOp.ll 2) ?_ | refine AQE.pe rfl (AOp.ll 2) ?_) <;> refine AQE.e ?_ <;> refine AQE.p rfl (AOp.index_sl rfl rfl (by omega) hx' (by kernel_rfl) rfl) ?_ <;> (first | refine AQE.p rfl AOp.la ?_ | refine AQE.p rfl (AOp.lw 0) ?_ | refine AQE.pe rfl (AOp.lw 0) ?_ | refine AQE.p rfl (AOp.lw 1) ?_ | refine AQE.pe rfl (AOp.lw 1) ?_ | refine AQE.p rfl (AOp.lw 2) ?_ | refine AQE.pe rfl (AOp.lw 2) ?_) <;> refine AQE.p rfl (AOp.call rfl rfl (hc.pure _)) ?_ <;> refine AQE.p rfl (AOp.lit (e := 25) (sz := 6) (by kernel_rfl) rfl rfl rfl (P_one rfl) (by decide)) ?_ <;> refine AQE.hl ?_ <;> (first | refine AQE.p rfl AOp.fa ?_ | refine AQE.p rfl (AOp.fr 5) ?_) <;> refine AQE.hl ?_ <;> refine AQE.nil ?_ <;> refine AX.o (n := 1) 9 ?_ <;> refine AXO.append (i := 0) (xs := o.map GFml.av) (e := 25) (sz := 6) (bytes := 104) rfl rfl rfl rfl (by kernel_rfl) (by kernel_rfl) (P_map GFml.size_av) (P_one rfl) rfl (by simp only [List.length_map]; simp; omega) (by simp only [List.length_map]; simp; omega) rfl fun b' c' => ?_ <;> try dsimp only [List.set_cons_succ, List.set_cons_zero, List.getD_cons_succ, List.getD_cons_zero] <;> refine AX.o (n := 0) 11 ?_ <;> (first | refine AXO.sl 0 fun _ => ?_ | refine AXO.sl 1 fun _ => ?_ | refine AXO.sl 2 fun _ => ?_) <;> try dsimp only [List.set_cons_succ, List.set_cons_zero, List.getD_cons_succ, List.getD_cons_zero] <;> refine AX.done_keep [0, 1, 2, 4, 5, 6, 7, 8, 9, 10, 11, 12, 13, 14, 15, 16, 17, 18, 25, 30, 31, 32, 33, 34, 35, 36, 37, 38, 39, 40, 41, 42, 43, 44, 45, 46, 47, 48, 49, 50, 51, 52, 53, 54, 55, 56, 57, 58, 59, 60, 61, 62, 63, 64, 65, 66, 67, 68, 69, 70, 71, 72, 73, 74, 75, 76, 77, 78, 79] ?_) | refine AW.jt ?_ | refine AW.jf ?_ | refine AW.jj (fun hb => ?_) (fun hb => ?_) | refine AW.go ?_ | fail)
            repeat' (first | (refine AW.r 6 ?_ <;> refine AL.es 1 ?_ <;> refine AL.d AOp.ad ?_ <;> refine AL.es 1 ?_ <;> refine AL.nil ?_) | refine AW.jt ?_ | refine AW.jf ?_ | refine AW.jj (fun hb => ?_) (fun hb => ?_) | refine AW.go ?_ | fail)
            refine AW.frame_eq rfl (show _ = [Own.tail b' ((o ++ [nnF x false]).map GFml.av).length c' 6, .box r5 (.st [.int .i64 k, .int .i64 ar, .str nm, strs vars, strs args, .slt ((o ++ [nnF x false]).map GFml.av) b' c']), .box r zF] from by rw [hm]; rfl) ?_
            refine AW.again_keep (kids.length - (i + 1)) [1, 2, 4, 5, 6] (by omega) ⟨i + 1, o ++ [nnF x false], b', c', hlt, rfl, rfl, rfl, ?_⟩
            rw [he, List.take_add_one, hx]; simp
          · have ho2 : o = nnL kids false := by rw [nnL_map, he, List.take_of_length_le (by omega)]
            subst ho2
            refine AW.weak_box 1 (.st [.int .i64 k, .int .i64 ar, .str nm, strs vars, strs args, .sl ((nnL kids false).map GFml.av)]) rfl (.st (.cons (.refl _) (.cons (.refl _) (.cons (.refl _) (.cons (.refl _) (.cons (.refl _) (.cons .slt .nil))))))) ?_
            repeat' (first | refine AW.re 5 5 ?_ | refine AW.jt ?_ | refine AW.jf ?_ | refine AW.jj (fun hb => ?_) (fun hb => ?_) | refine AW.go ?_ | fail)
            all_goals try (exfalso; simp only [decide_eq_true_eq, decide_eq_false_iff_not, List.length_map] at *; omega)
            cases nt with
            | true =>
              repeat' (first | refine AW.re 8 1 ?_ | (refine AW.r 9 ?_ <;> (first | refine AL.d AOp.la ?_ | refine AL.d (AOp.lw 0) ?_ | refine AL.d (AOp.lw 1) ?_ | refine AL.d (AOp.lw 2) ?_) <;> refine AL.d (AOp.lit (e := 25) (sz := 6) (by kernel_rfl) rfl rfl rfl (P_one rfl) (by decide)) ?_ <;> refine AL.d (AOp.build (pl := [(0, 1), (1, 1), (2, 1), (3, 1), (4, 1), (5, 1)]) (z := .st [.int .i64 0, .int .i64 0, .str ⟨#[]⟩, .sl [], .sl [], .sl []]) (by kernel_rfl) rfl rfl rfl) ?_ <;> (first | refine AL.sl 0 ?_ | refine AL.sl 1 ?_ | refine AL.sl 2 ?_) <;> refine AL.nil ?_) | refine AW.jt ?_ | refine AW.jf ?_ | refine AW.jj (fun hb => ?_) (fun hb => ?_) | refine AW.go ?_ | fail)
              refine AW.retc (.cell 2 rfl rfl (by kernel_rfl) .nil) (List.nil_sublist _) ⟨?_, rfl⟩
              simp [GFml.st, GFml.av_eq, resv, strs]
              exact ⟨rfl, rfl⟩
            | false =>
              repeat' (first | refine AW.re 8 1 ?_ | (refine AW.r 10 ?_ <;> (first | refine AL.d AOp.la ?_ | refine AL.d (AOp.lw 0) ?_ | refine AL.d (AOp.lw 1) ?_ | refine AL.d (AOp.lw 2) ?_) <;> (first | refine AL.sl 0 ?_ | refine AL.sl 1 ?_ | refine AL.sl 2 ?_) <;> refine AL.nil ?_) | refine AW.jt ?_ | refine AW.jf ?_ | refine AW.jj (fun hb => ?_) (fun hb => ?_) | refine AW.go ?_ | fail)
              exact AW.retc (.cell 2 rfl rfl (by kernel_rfl) .nil) (List.nil_sublist _) ⟨rfl, rfl⟩
    · rintro af ah ⟨hq, rfl, rfl⟩
      have hk30 : (k == 3) = false := by
        cases h : k == 3 with
        | false => rfl
        | true => obtain rfl : k = 3 := by simpa using h
                  cases hq
      refine AW.own_nil 6 ?_
      repeat' (first | refine AW.re 21 1 ?_ | refine AW.jt ?_ | refine AW.jf ?_ | refine AW.jj (fun hb => ?_) (fun hb => ?_) | refine AW.go ?_ | fail)
      refine AW.prune [1, 2, 4, 5, 7] (AW.loop (fun mz af h => ∃ (i : Nat) (o : List GFml) (tt : Option Nat) (cc : Nat), i ≤ kids.length ∧ mz = kids.length - i ∧ af = [(1, .bool nt), (2, .at (.st [.int .i64 k, .int .i64 ar, .str nm, strs vars, strs args, .sl (kids.map GFml.av)])), (4, .ref r 0), (5, .ref r5 0), (7, .int .i64 i)] ∧ h = [.tail tt (o.map GFml.av).length cc 6, .box r5 (.st [.int .i64 (bif nt then oth k else k), .int .i64 ar, .str nm, strs vars, strs args, .slt (o.map GFml.av) tt cc]), .box r zF] ∧ o = (kids.take i).map (fun x => nnF x nt)) kids.length ⟨0, [], none, 0, Nat.zero_le _, rfl, rfl, rfl, by simp⟩ ?_)
      rintro mz af h ⟨i, o, tt, cc, hi, rfl, rfl, rfl, he⟩
      refine AW.seq ?_
      by_cases hlt : i < kids.length
      · obtain ⟨x, hx⟩ := get_lt hlt
        have hx' : (kids.map GFml.av)[((i : Nat) : Int).toNat]? = some (x.st) := GFml.get hx
        have hc := hI x (List.mem_of_getElem? hx) nt
        have hol : o.length ≤ 1353245080300 := by rw [he]; simp; omega
        have hm : (o ++ [nnF x nt]).map GFml.av = o.map GFml.av ++ [(nnF x nt).st] := by simp [GFml.av_eq]
        repeat' (first | refine AW.re 22 5 ?_ | refine AW.jt ?_ | refine AW.jf ?_ | refine AW.jj (fun hb => ?_) (fun hb => ?_) | refine AW.go ?_ | fail)
        all_goals try (exfalso; simp only [decide_eq_true_eq, decide_eq_false_iff_not, List.length_map] at *; omega)
        repeat' (first | (refine AW.ex 24 [true, true] [10, 12] ?_ <;> (first | refine AQE.p rfl AOp.fa ?_ | refine AQE.p rfl (AOp.fr 5) ?_) <;> (first | refine AQE.p rfl AOp.la ?_ | refine AQE.p rfl (AOp.ll 0) ?_ | refine AQE.pe rfl (AOp.ll 0) ?_ | refine AQE.p rfl (AOp.ll 1) ?_ | refine AQE.pe rfl (AOp.ll 1) ?_ | refine AQE.p rfl (AOp.ll 2) ?_ | refine AQE.pe rfl (AOp.ll 2) ?_) <;> (first | refine AQE.p rfl AOp.fa ?_ | refine AQE.p rfl (AOp.fr 5) ?_) <;> (first | refine AQE.p rfl AOp.la ?_ | refine AQE.p rfl (AOp.ll 0) ?_ | refine AQE.pe rfl (AOp.ll 0) ?_ | refine AQE.p rfl (AOp.ll 1) ?_ | refine AQE.pe rfl (AOp.ll 1) ?_ | refine AQE.p rfl (AOp.ll 2) ?_ | refine AQE.pe rfl (AOp.ll 2) ?_) <;> refine AQE.e ?_ <;> refine AQE.p rfl (AOp.index_sl rfl rfl (by omega) hx' (by kernel_rfl) rfl) ?_ <;> (first | refine AQE.p rfl AOp.la ?_ | refine AQE.p rfl (AOp.lw 0) ?_ | refine AQE.pe rfl (AOp.lw 0) ?_ | refine AQE.p rfl (AOp.lw 1) ?_ | refine AQE.pe rfl (AOp.lw 1) ?_ | refine AQE.p rfl (AOp.lw 2) ?_ | refine AQE.pe rfl (AOp.lw 2) ?_) <;> refine AQE.e ?_ <;> refine AQE.p rfl (AOp.call rfl rfl (hc.pure _)) ?_ <;> refine AQE.p rfl (AOp.lit (e := 25) (sz := 6) (by kernel_rfl) rfl rfl rfl (P_one rfl) (by decide)) ?_ <;> refine AQE.hl ?_ <;> (first | refine AQE.p rfl AOp.fa ?_ | refine AQE.p rfl (AOp.fr 5) ?_) <;> refine AQE.hl ?_ <;> refine AQE.nil ?_ <;> refine AX.o (n := 1) 10 ?_ <;> refine AXO.append (i := 0) (xs := o.map GFml.av) (e := 25) (sz := 6) (bytes := 104) rfl rfl rfl rfl (by kernel_rfl) (by kernel_rfl) (P_map GFml.size_av) (P_one rfl) rfl (by simp only [List.length_map]; simp; omega) (by simp only [List.length_map]; simp; omega) rfl fun b' c' => ?_ <;> try dsimp only [List.set_cons_succ, List.set_cons_zero, List.getD_cons_succ, List.getD_cons_zero] <;> refine AX.o (n := 0) 12 ?_ <;> (first | refine AXO.sl 0 fun _ => ?_ | refine AXO.sl 1 fun _ => ?_ | refine AXO.sl 2 fun _ => ?_) <;> try dsimp only [List.set_cons_succ, List.set_cons_zero, List.getD_cons_succ, List.getD_cons_zero] <;> refine AX.done_keep [0, 1, 2, 4, 5, 6, 7, 8, 9, 10, 11, 12, 13, 14, 15, 16, 17, 18, 19, 20, 21, 22, 23, 24, 25, 26, 27, 28, 29, 30, 31, 32, 33, 34, 35, 36, 37, 38, 39, 40, 41, 42, 43, 44, 45, 46, 47, 48, 49, 50, 51, 52, 53, 54, 55, 56, 57, 58, 59, 60, 61, 62, 63, 64, 65, 66, 79] ?_) | refine AW.jt ?_ | refine AW.jf ?_ | refine AW.jj (fun hb => ?_) (fun hb => ?_) | refine AW.go ?_ | fail)
        repeat' (first | (refine AW.r 23 ?_ <;> refine AL.es 1 ?_ <;> refine AL.d AOp.ad ?_ <;> refine AL.es 1 ?_ <;> refine AL.nil ?_) | refine AW.jt ?_ | refine AW.jf ?_ | refine AW.jj (fun hb => ?_) (fun hb => ?_) | refine AW.go ?_ | fail)
        refine AW.frame_eq rfl (show _ = [Own.tail b' ((o ++ [nnF x nt]).map GFml.av).length c' 6, .box r5 (.st [.int .i64 (bif nt then oth k else k), .int .i64 ar, .str nm, strs vars, strs args, .slt ((o ++ [nnF x nt]).map GFml.av) b' c']), .box r zF] from by rw [hm]; rfl) ?_
        refine AW.again_keep (kids.length - (i + 1)) [1, 2, 4, 5, 7] (by omega) ⟨i + 1, o ++ [nnF x nt], b', c', hlt, rfl, rfl, rfl, ?_⟩
        rw [he, List.take_add_one, hx]; simp
      · have ho2 : o = nnL kids nt := by rw [nnL_map, he, List.take_of_length_le (by omega)]
        subst ho2
        refine AW.weak_box 1 (.st [.int .i64 (bif nt then oth k else k), .int .i64 ar, .str nm, strs vars, strs args, .sl ((nnL kids nt).map GFml.av)]) rfl (.st (.cons (.refl _) (.cons (.refl _) (.cons (.refl _) (.cons (.refl _) (.cons (.refl _) (.cons .slt .nil))))))) ?_
        repeat' (first | refine AW.re 22 5 ?_ | refine AW.jt ?_ | refine AW.jf ?_ | refine AW.jj (fun hb => ?_) (fun hb => ?_) | refine AW.go ?_ | fail)
        all_goals try (exfalso; simp only [decide_eq_true_eq, decide_eq_false_iff_not, List.length_map] at *; omega)
        repeat' (first | (refine AW.r 25 ?_ <;> (first | refine AL.d AOp.la ?_ | refine AL.d (AOp.lw 0) ?_ | refine AL.d (AOp.lw 1) ?_ | refine AL.d (AOp.lw 2) ?_) <;> (first | refine AL.sl 0 ?_ | refine AL.sl 1 ?_ | refine AL.sl 2 ?_) <;> refine AL.nil ?_) | refine AW.jt ?_ | refine AW.jf ?_ | refine AW.jj (fun hb => ?_) (fun hb => ?_) | refine AW.go ?_ | fail)
        refine AW.retc (.cell 2 rfl rfl (by kernel_rfl) .nil) (List.nil_sublist _) ⟨?_, rfl⟩
        rw [hk30, hq, cond_false, cond_true]
        rfl
end Go.Proofs.YtlpndgodkkndnaaDoor
namespace Go.Proofs.YtlpndgodkkndnaaDoor
open Go.RowKit Go.SX
set_option maxRecDepth 100000
set_option maxHeartbeats 4000000
set_option linter.unusedVariables false
set_option linter.unusedSimpArgs false
def bld0 (b : Nat) : AH := [.trow b 77 [.val (.pointer none), nilS]]
def bld1 (b : Nat) : AH := [.trow b 77 [.ref b 0, nilS]]
def bldW (b g : Nat) (us tl : List AV) : AH := [.trow b 77 [.ref b 0, .osl g us.length (us.length + tl.length)], .trow g 5 (us ++ tl)]
theorem copy0 (b : Nat) : Tri Tryd.prog 92 [.ref b 0] (bld0 b) (D (.tup []) (bld1 b)) := by
  refine Tri.enter 20 Tryd.func92 rfl rfl rfl rfl fun Fr w0 => ?_
  repeat' (first | (refine AW.r 0 ?_ <;> refine AL.es 2 ?_ <;> (first | refine AL.d AOp.fa ?_ | refine AL.d (AOp.fr 0) ?_) <;> (first | refine AL.d (AOp.load_tcell 0 rfl rfl rfl rfl (by kernel_rfl)) ?_ | refine AL.d AOp.la ?_ | refine AL.d (AOp.ll 0) ?_) <;> (first | refine AL.e ?_ | refine AL.d (AOp.ptr_nil_nil 77 rfl (by kernel_rfl)) ?_) <;> refine AL.nil ?_) | (refine AW.r 1 ?_ <;> refine AL.es 2 ?_ <;> (first | refine AL.d (AOp.conv_un (src := 74) (dst := 125) 0 77 rfl rfl (by kernel_rfl) (by kernel_rfl) (by kernel_rfl) (by decide)) ?_ | refine AL.d (AOp.conv_from (src := 125) (dst := 74) 0 rfl rfl (by kernel_rfl) (by kernel_rfl) (by kernel_rfl) (by kernel_rfl)) ?_) <;> refine AL.d (AOp.call_same rfl rfl Tryd.func99 (by kernel_rfl) (by kernel_rfl) (by kernel_rfl) (by kernel_rfl)) ?_ <;> (first | refine AL.d (AOp.conv_un (src := 74) (dst := 125) 0 77 rfl rfl (by kernel_rfl) (by kernel_rfl) (by kernel_rfl) (by decide)) ?_ | refine AL.d (AOp.conv_from (src := 125) (dst := 74) 0 rfl rfl (by kernel_rfl) (by kernel_rfl) (by kernel_rfl) (by kernel_rfl)) ?_) <;> refine AL.es 1 ?_ <;> (first | refine AL.d AOp.fa ?_ | refine AL.d (AOp.fr 0) ?_) <;> (first | refine AL.store_tcell 0 rfl rfl rfl rfl rfl rfl (by kernel_rfl) ?_ | refine AL.sl 0 ?_) <;> refine AL.nil ?_) | refine AW.jt ?_ | refine AW.jf ?_ | refine AW.jj (fun hb => ?_) (fun hb => ?_) | refine AW.go ?_ | fail)
  exact AW.donev rfl ⟨rfl, rfl⟩
theorem copyW (b : Nat) (v : AV) : Tri Tryd.prog 92 [.ref b 0] [.trow b 77 [.ref b 0, v]] (D (.tup []) [.trow b 77 [.ref b 0, v]]) := by
  refine Tri.enter 20 Tryd.func92 rfl rfl rfl rfl fun Fr w0 => ?_
  repeat' (first | (refine AW.r 0 ?_ <;> refine AL.es 2 ?_ <;> (first | refine AL.d AOp.fa ?_ | refine AL.d (AOp.fr 0) ?_) <;> (first | refine AL.d (AOp.load_tcell 0 rfl rfl rfl rfl (by kernel_rfl)) ?_ | refine AL.d AOp.la ?_ | refine AL.d (AOp.ll 0) ?_) <;> (first | refine AL.e ?_ | refine AL.d (AOp.ptr_nil_ref 77 rfl (by kernel_rfl)) ?_ | refine AL.d (AOp.ptr_ne_self 77 rfl rfl (by kernel_rfl) (by kernel_rfl)) ?_) <;> refine AL.nil ?_) | (refine AW.r 2 ?_ <;> refine AL.es 2 ?_ <;> (first | refine AL.d AOp.fa ?_ | refine AL.d (AOp.fr 0) ?_) <;> (first | refine AL.d (AOp.load_tcell 0 rfl rfl rfl rfl (by kernel_rfl)) ?_ | refine AL.d AOp.la ?_ | refine AL.d (AOp.ll 0) ?_) <;> refine AL.es 1 ?_ <;> (first | refine AL.e ?_ | refine AL.d (AOp.ptr_nil_ref 77 rfl (by kernel_rfl)) ?_ | refine AL.d (AOp.ptr_ne_self 77 rfl rfl (by kernel_rfl) (by kernel_rfl)) ?_) <;> refine AL.nil ?_) | refine AW.jt ?_ | refine AW.jf ?_ | refine AW.jj (fun hb => ?_) (fun hb => ?_) | refine AW.go ?_ | fail)
  exact AW.donev rfl ⟨rfl, rfl⟩
theorem ws0 (b : Nat) (s : ByteArray) (h0 : 0 < s.size) (hs : s.size ≤ 140737488355328) : Tri Tryd.prog 77 [.ref b 0, .str s] (bld0 b) (fun x h => (∃ v, x = .ret v) ∧ ∃ g tl, h = bldW b g (bytesAV s) tl) := by
  have hc := copy0 b
  refine Tri.enter 19 Tryd.func77 rfl rfl rfl rfl fun Fr w0 => ?_
  repeat' (first | refine AW.re 0 2 ?_ | (refine AW.r 1 ?_ <;> refine AL.es 1 ?_ <;> refine AL.d (AOp.call rfl rfl hc) ?_ <;> refine AL.nil ?_) | refine AW.jt ?_ | refine AW.jf ?_ | refine AW.jj (fun hb => ?_) (fun hb => ?_) | refine AW.go ?_ | fail)
  repeat' (first | (refine AW.r 2 ?_ <;> (first | ((refine AL.step rfl rfl (AOp.append_str0 (e := 5) rfl rfl h0 (by kernel_rfl) (by kernel_rfl) hs) ?_ (by rintro _ _ ⟨_, _, e, _⟩; cases e); rintro _ _ ⟨g, tl, e, rfl⟩; injection e with e; subst e)) | refine AL.e ?_) <;> (first | ((refine AL.step rfl rfl (AOp.append_str0 (e := 5) rfl rfl h0 (by kernel_rfl) (by kernel_rfl) hs) ?_ (by rintro _ _ ⟨_, _, e, _⟩; cases e); rintro _ _ ⟨g, tl, e, rfl⟩; injection e with e; subst e)) | refine AL.e ?_) <;> refine AL.es 1 ?_ <;> (first | ((refine AL.step rfl rfl (AOp.append_str0 (e := 5) rfl rfl h0 (by kernel_rfl) (by kernel_rfl) hs) ?_ (by rintro _ _ ⟨_, _, e, _⟩; cases e); rintro _ _ ⟨g, tl, e, rfl⟩; injection e with e; subst e)) | refine AL.d AOp.fa ?_ | refine AL.d (AOp.fr 1) ?_) <;> (first | ((refine AL.step rfl rfl (AOp.append_str0 (e := 5) rfl rfl h0 (by kernel_rfl) (by kernel_rfl) hs) ?_ (by rintro _ _ ⟨_, _, e, _⟩; cases e); rintro _ _ ⟨g, tl, e, rfl⟩; injection e with e; subst e)) | refine AL.d (AOp.load_tcell 0 rfl rfl rfl rfl (by kernel_rfl)) ?_ | refine AL.d AOp.la ?_ | refine AL.d (AOp.ll 0) ?_) <;> (first | ((refine AL.step rfl rfl (AOp.append_str0 (e := 5) rfl rfl h0 (by kernel_rfl) (by kernel_rfl) hs) ?_ (by rintro _ _ ⟨_, _, e, _⟩; cases e); rintro _ _ ⟨g, tl, e, rfl⟩; injection e with e; subst e)) | refine AL.e ?_) <;> (refine AL.step rfl rfl (AOp.append_str0 (e := 5) rfl rfl h0 (by kernel_rfl) (by kernel_rfl) hs) ?_ (by rintro _ _ ⟨_, _, e, _⟩; cases e); rintro _ _ ⟨g, tl, e, rfl⟩; injection e with e; subst e) <;> refine AL.es 1 ?_ <;> (first | ((refine AL.step rfl rfl (AOp.append_str0 (e := 5) rfl rfl h0 (by kernel_rfl) (by kernel_rfl) hs) ?_ (by rintro _ _ ⟨_, _, e, _⟩; cases e); rintro _ _ ⟨g, tl, e, rfl⟩; injection e with e; subst e)) | refine AL.d AOp.fa ?_ | refine AL.d (AOp.fr 1) ?_) <;> (first | ((refine AL.step rfl rfl (AOp.append_str0 (e := 5) rfl rfl h0 (by kernel_rfl) (by kernel_rfl) hs) ?_ (by rintro _ _ ⟨_, _, e, _⟩; cases e); rintro _ _ ⟨g, tl, e, rfl⟩; injection e with e; subst e)) | refine AL.store_tcell 1 rfl rfl rfl rfl rfl rfl (by kernel_rfl) ?_ | refine AL.sl 0 ?_) <;> refine AL.nil ?_) | refine AW.jt ?_ | refine AW.jf ?_ | refine AW.jj (fun hb => ?_) (fun hb => ?_) | refine AW.go ?_ | fail)
  refine AW.perm (b := bldW b g (bytesAV s) tl) (.swap _ _ _) ?_
  repeat' (first | refine AW.re 3 4 ?_ | refine AW.jt ?_ | refine AW.jf ?_ | refine AW.jj (fun hb => ?_) (fun hb => ?_) | refine AW.go ?_ | fail)
  exact AW.retv rfl ⟨⟨_, rfl⟩, _, _, rfl⟩
theorem wsW (b g : Nat) (us tl : List AV) (s : ByteArray) (hs : us.length + s.size ≤ 140737488355328) : Tri Tryd.prog 77 [.ref b 0, .str s] (bldW b g us tl) (fun x h => (∃ v, x = .ret v) ∧ ∃ g tl, h = bldW b g (us ++ bytesAV s) tl) := by
  have hc : Tri Tryd.prog 92 [.ref b 0] (bldW b g us tl) (D (.tup []) (bldW b g us tl)) := Tri.frameD (ah := bldW b g us tl) [true] (copyW b _)
  refine Tri.enter 19 Tryd.func77 rfl rfl rfl rfl fun Fr w0 => ?_
  repeat' (first | refine AW.re 0 2 ?_ | (refine AW.r 1 ?_ <;> refine AL.es 1 ?_ <;> refine AL.d (AOp.call rfl rfl hc) ?_ <;> refine AL.nil ?_) | refine AW.jt ?_ | refine AW.jf ?_ | refine AW.jj (fun hb => ?_) (fun hb => ?_) | refine AW.go ?_ | fail)
  repeat' (first | (refine AW.r 2 ?_ <;> (first | ((refine AL.step rfl rfl (AOp.append_str (i := 1) (us := us) (tl := tl) (e := 5) rfl rfl rfl (by kernel_rfl) (by kernel_rfl) hs) ?_ (by rintro _ _ ⟨_, _, e, _⟩; cases e); rintro _ _ ⟨g2, tl2, e, rfl⟩; injection e with e; subst e)) | refine AL.e ?_) <;> (first | ((refine AL.step rfl rfl (AOp.append_str (i := 1) (us := us) (tl := tl) (e := 5) rfl rfl rfl (by kernel_rfl) (by kernel_rfl) hs) ?_ (by rintro _ _ ⟨_, _, e, _⟩; cases e); rintro _ _ ⟨g2, tl2, e, rfl⟩; injection e with e; subst e)) | refine AL.e ?_) <;> refine AL.es 1 ?_ <;> (first | ((refine AL.step rfl rfl (AOp.append_str (i := 1) (us := us) (tl := tl) (e := 5) rfl rfl rfl (by kernel_rfl) (by kernel_rfl) hs) ?_ (by rintro _ _ ⟨_, _, e, _⟩; cases e); rintro _ _ ⟨g2, tl2, e, rfl⟩; injection e with e; subst e)) | refine AL.d AOp.fa ?_ | refine AL.d (AOp.fr 1) ?_) <;> (first | ((refine AL.step rfl rfl (AOp.append_str (i := 1) (us := us) (tl := tl) (e := 5) rfl rfl rfl (by kernel_rfl) (by kernel_rfl) hs) ?_ (by rintro _ _ ⟨_, _, e, _⟩; cases e); rintro _ _ ⟨g2, tl2, e, rfl⟩; injection e with e; subst e)) | refine AL.d (AOp.load_tcell 0 rfl rfl rfl rfl (by kernel_rfl)) ?_ | refine AL.d AOp.la ?_ | refine AL.d (AOp.ll 0) ?_) <;> (first | ((refine AL.step rfl rfl (AOp.append_str (i := 1) (us := us) (tl := tl) (e := 5) rfl rfl rfl (by kernel_rfl) (by kernel_rfl) hs) ?_ (by rintro _ _ ⟨_, _, e, _⟩; cases e); rintro _ _ ⟨g2, tl2, e, rfl⟩; injection e with e; subst e)) | refine AL.e ?_) <;> (refine AL.step rfl rfl (AOp.append_str (i := 1) (us := us) (tl := tl) (e := 5) rfl rfl rfl (by kernel_rfl) (by kernel_rfl) hs) ?_ (by rintro _ _ ⟨_, _, e, _⟩; cases e); rintro _ _ ⟨g2, tl2, e, rfl⟩; injection e with e; subst e) <;> refine AL.es 1 ?_ <;> (first | ((refine AL.step rfl rfl (AOp.append_str (i := 1) (us := us) (tl := tl) (e := 5) rfl rfl rfl (by kernel_rfl) (by kernel_rfl) hs) ?_ (by rintro _ _ ⟨_, _, e, _⟩; cases e); rintro _ _ ⟨g2, tl2, e, rfl⟩; injection e with e; subst e)) | refine AL.d AOp.fa ?_ | refine AL.d (AOp.fr 1) ?_) <;> (first | ((refine AL.step rfl rfl (AOp.append_str (i := 1) (us := us) (tl := tl) (e := 5) rfl rfl rfl (by kernel_rfl) (by kernel_rfl) hs) ?_ (by rintro _ _ ⟨_, _, e, _⟩; cases e); rintro _ _ ⟨g2, tl2, e, rfl⟩; injection e with e; subst e)) | refine AL.store_tcell 0 rfl rfl rfl rfl rfl rfl (by kernel_rfl) ?_ | refine AL.sl 0 ?_) <;> refine AL.nil ?_) | refine AW.jt ?_ | refine AW.jf ?_ | refine AW.jj (fun hb => ?_) (fun hb => ?_) | refine AW.go ?_ | fail)
  repeat' (first | refine AW.re 3 4 ?_ | refine AW.jt ?_ | refine AW.jf ?_ | refine AW.jj (fun hb => ?_) (fun hb => ?_) | refine AW.go ?_ | fail)
  exact AW.retv rfl ⟨⟨_, rfl⟩, _, _, rfl⟩
theorem wbW (b g : Nat) (us tl : List AV) (c : Int) (hs : us.length + 1 ≤ 140737488355328) : Tri Tryd.prog 78 [.ref b 0, .int .u8 c] (bldW b g us tl) (fun x h => (∃ v, x = .ret v) ∧ ∃ g tl, h = bldW b g (us ++ [.int .u8 c]) tl) := by
  have hc : Tri Tryd.prog 92 [.ref b 0] (bldW b g us tl) (D (.tup []) (bldW b g us tl)) := Tri.frameD (ah := bldW b g us tl) [true] (copyW b _)
  refine Tri.enter 17 Tryd.func78 rfl rfl rfl rfl fun Fr w0 => ?_
  repeat' (first | refine AW.re 0 1 ?_ | (refine AW.r 1 ?_ <;> refine AL.es 1 ?_ <;> refine AL.d (AOp.call rfl rfl hc) ?_ <;> refine AL.nil ?_) | refine AW.jt ?_ | refine AW.jf ?_ | refine AW.jj (fun hb => ?_) (fun hb => ?_) | refine AW.go ?_ | fail)
  repeat' (first | (refine AW.r 2 ?_ <;> (first | ((refine AL.step rfl rfl (AOp.append_t (i := 1) (us := us) (tl := tl) (v := .int .u8 c) (e := 5) (bytes := 1) (c0 := .int .u8 0) rfl rfl rfl rfl rfl (by kernel_rfl) (by kernel_rfl) (by omega) (by omega)) ?_ (by rintro _ _ ⟨_, _, e, _⟩; cases e); rintro _ _ ⟨g2, tl2, e, rfl⟩; injection e with e; subst e)) | refine AL.e ?_) <;> (first | ((refine AL.step rfl rfl (AOp.append_t (i := 1) (us := us) (tl := tl) (v := .int .u8 c) (e := 5) (bytes := 1) (c0 := .int .u8 0) rfl rfl rfl rfl rfl (by kernel_rfl) (by kernel_rfl) (by omega) (by omega)) ?_ (by rintro _ _ ⟨_, _, e, _⟩; cases e); rintro _ _ ⟨g2, tl2, e, rfl⟩; injection e with e; subst e)) | refine AL.e ?_) <;> refine AL.es 1 ?_ <;> (first | ((refine AL.step rfl rfl (AOp.append_t (i := 1) (us := us) (tl := tl) (v := .int .u8 c) (e := 5) (bytes := 1) (c0 := .int .u8 0) rfl rfl rfl rfl rfl (by kernel_rfl) (by kernel_rfl) (by omega) (by omega)) ?_ (by rintro _ _ ⟨_, _, e, _⟩; cases e); rintro _ _ ⟨g2, tl2, e, rfl⟩; injection e with e; subst e)) | refine AL.d AOp.fa ?_ | refine AL.d (AOp.fr 1) ?_) <;> (first | ((refine AL.step rfl rfl (AOp.append_t (i := 1) (us := us) (tl := tl) (v := .int .u8 c) (e := 5) (bytes := 1) (c0 := .int .u8 0) rfl rfl rfl rfl rfl (by kernel_rfl) (by kernel_rfl) (by omega) (by omega)) ?_ (by rintro _ _ ⟨_, _, e, _⟩; cases e); rintro _ _ ⟨g2, tl2, e, rfl⟩; injection e with e; subst e)) | refine AL.d (AOp.load_tcell 0 rfl rfl rfl rfl (by kernel_rfl)) ?_ | refine AL.d AOp.la ?_ | refine AL.d (AOp.ll 0) ?_) <;> (first | ((refine AL.step rfl rfl (AOp.append_t (i := 1) (us := us) (tl := tl) (v := .int .u8 c) (e := 5) (bytes := 1) (c0 := .int .u8 0) rfl rfl rfl rfl rfl (by kernel_rfl) (by kernel_rfl) (by omega) (by omega)) ?_ (by rintro _ _ ⟨_, _, e, _⟩; cases e); rintro _ _ ⟨g2, tl2, e, rfl⟩; injection e with e; subst e)) | refine AL.e ?_) <;> (first | ((refine AL.step rfl rfl (AOp.append_t (i := 1) (us := us) (tl := tl) (v := .int .u8 c) (e := 5) (bytes := 1) (c0 := .int .u8 0) rfl rfl rfl rfl rfl (by kernel_rfl) (by kernel_rfl) (by omega) (by omega)) ?_ (by rintro _ _ ⟨_, _, e, _⟩; cases e); rintro _ _ ⟨g2, tl2, e, rfl⟩; injection e with e; subst e)) | refine AL.d (AOp.lit (e := 5) (sz := 1) (by kernel_rfl) rfl rfl rfl (P_one rfl) (by decide)) ?_) <;> (refine AL.step rfl rfl (AOp.append_t (i := 1) (us := us) (tl := tl) (v := .int .u8 c) (e := 5) (bytes := 1) (c0 := .int .u8 0) rfl rfl rfl rfl rfl (by kernel_rfl) (by kernel_rfl) (by omega) (by omega)) ?_ (by rintro _ _ ⟨_, _, e, _⟩; cases e); rintro _ _ ⟨g2, tl2, e, rfl⟩; injection e with e; subst e) <;> refine AL.es 1 ?_ <;> (first | ((refine AL.step rfl rfl (AOp.append_t (i := 1) (us := us) (tl := tl) (v := .int .u8 c) (e := 5) (bytes := 1) (c0 := .int .u8 0) rfl rfl rfl rfl rfl (by kernel_rfl) (by kernel_rfl) (by omega) (by omega)) ?_ (by rintro _ _ ⟨_, _, e, _⟩; cases e); rintro _ _ ⟨g2, tl2, e, rfl⟩; injection e with e; subst e)) | refine AL.d AOp.fa ?_ | refine AL.d (AOp.fr 1) ?_) <;> (first | ((refine AL.step rfl rfl (AOp.append_t (i := 1) (us := us) (tl := tl) (v := .int .u8 c) (e := 5) (bytes := 1) (c0 := .int .u8 0) rfl rfl rfl rfl rfl (by kernel_rfl) (by kernel_rfl) (by omega) (by omega)) ?_ (by rintro _ _ ⟨_, _, e, _⟩; cases e); rintro _ _ ⟨g2, tl2, e, rfl⟩; injection e with e; subst e)) | refine AL.store_tcell 0 rfl rfl rfl rfl rfl rfl (by kernel_rfl) ?_ | refine AL.sl 0 ?_) <;> refine AL.nil ?_) | refine AW.jt ?_ | refine AW.jf ?_ | refine AW.jj (fun hb => ?_) (fun hb => ?_) | refine AW.go ?_ | fail)
  repeat' (first | refine AW.re 3 1 ?_ | refine AW.jt ?_ | refine AW.jf ?_ | refine AW.jj (fun hb => ?_) (fun hb => ?_) | refine AW.go ?_ | fail)
  exact AW.retv rfl ⟨⟨_, rfl⟩, _, _, rfl⟩
theorem lenW (b g : Nat) (us tl : List AV) : Tri Tryd.prog 53 [.ref b 0] (bldW b g us tl) (D (.int .i64 us.length) (bldW b g us tl)) := by
  refine Tri.enter 8 Tryd.func53 rfl rfl rfl rfl fun Fr w0 => ?_
  repeat' (first | refine AW.re 0 1 ?_ | (refine AW.r 1 ?_ <;> refine AL.es 2 ?_ <;> (first | refine AL.d AOp.fa ?_ | refine AL.d (AOp.fr 1) ?_) <;> (first | refine AL.d (AOp.load_tcell 0 rfl rfl rfl rfl (by kernel_rfl)) ?_ | refine AL.d AOp.la ?_ | refine AL.d (AOp.ll 0) ?_) <;> refine AL.es 2 ?_ <;> refine AL.nil ?_) | refine AW.jt ?_ | refine AW.jf ?_ | refine AW.jj (fun hb => ?_) (fun hb => ?_) | refine AW.go ?_ | fail)
  exact AW.retv rfl ⟨rfl, rfl⟩
theorem strW (b g : Nat) (l : List UInt8) (tl : List AV) (h0 : l ≠ []) (hl : l.length ≤ 9223372036854775807) : Tri Tryd.prog 54 [.ref b 0] (bldW b g (bytesAV ⟨l.toArray⟩) tl) (D (.str ⟨l.toArray⟩) []) := by
  have hb : (bytesAV ⟨l.toArray⟩).length = l.length := by rw [bytesAV_length]; simp [ByteArray.size]
  have hp : 0 < l.length := List.length_pos_iff.2 h0
  refine Tri.enter 14 Tryd.func54 rfl rfl rfl rfl fun Fr w0 => ?_
  repeat' (first | refine AW.re 0 1 ?_ | refine AW.jt ?_ | refine AW.jf ?_ | refine AW.jj (fun hb => ?_) (fun hb => ?_) | refine AW.go ?_ | fail)
  repeat' (first | (refine AW.ex 1 [false, true] [10, 11] ?_ <;> refine AQE.e ?_ <;> refine AQE.e ?_ <;> (first | refine AQE.p rfl AOp.fa ?_ | refine AQE.p rfl (AOp.fr 1) ?_) <;> (first | refine AQE.p rfl (AOp.load_tcell 0 rfl rfl rfl rfl (by kernel_rfl)) ?_ | refine AQE.pe rfl (AOp.load_tcell 0 rfl rfl rfl rfl (by kernel_rfl)) ?_ | refine AQE.p rfl AOp.la ?_ | refine AQE.p rfl (AOp.ll 0) ?_ | refine AQE.pe rfl (AOp.ll 0) ?_) <;> refine AQE.p rfl (AOp.sliceData rfl (by rw [hb]; exact hp)) ?_ <;> refine AQE.e ?_ <;> refine AQE.e ?_ <;> (first | refine AQE.p rfl AOp.fa ?_ | refine AQE.p rfl (AOp.fr 1) ?_) <;> (first | refine AQE.p rfl (AOp.load_tcell 0 rfl rfl rfl rfl (by kernel_rfl)) ?_ | refine AQE.pe rfl (AOp.load_tcell 0 rfl rfl rfl rfl (by kernel_rfl)) ?_ | refine AQE.p rfl AOp.la ?_ | refine AQE.p rfl (AOp.ll 0) ?_ | refine AQE.pe rfl (AOp.ll 0) ?_) <;> (first | (refine AQE.p rfl (AOp.len (n := l.length) rfl (by rw [← hb]; rfl) (by kernel_rfl)) ?_) | refine AQE.p rfl AOp.ln ?_) <;> refine AQE.hl ?_ <;> refine AQE.hl ?_ <;> refine AQE.nil ?_ <;> refine AX.o (n := 1) 10 ?_ <;> refine AXO.d (AOp.unsafeStr (i := 0) (l := l) (tl := tl) (e := 5) rfl rfl rfl h0 (by kernel_rfl) (by kernel_rfl) hl) ?_ <;> try dsimp only [List.set_cons_succ, List.set_cons_zero, List.getD_cons_succ, List.getD_cons_zero] <;> refine AX.o (n := 0) 11 ?_ <;> refine AXO.e ?_ <;> try dsimp only [List.set_cons_succ, List.set_cons_zero, List.getD_cons_succ, List.getD_cons_zero] <;> refine AX.done_keep [2] ?_) | refine AW.jt ?_ | refine AW.jf ?_ | refine AW.jj (fun hb => ?_) (fun hb => ?_) | refine AW.go ?_ | fail)
  exact AW.ret_drop rfl (List.nil_sublist _) ⟨rfl, rfl⟩
end Go.Proofs.YtlpndgodkkndnaaDoor
namespace Go.Proofs.YtlpndgodkkndnaaDoor
open Go.RowKit Go.SX
set_option maxRecDepth 100000
set_option maxHeartbeats 4000000
set_option linter.unusedVariables false
set_option linter.unusedSimpArgs false
def joinB (xs : List ByteArray) (sep : ByteArray) : ByteArray := ⟨(Lib.join (xs.map (·.data.toList)) sep.data.toList).toArray⟩
theorem Join_str (xs : List ByteArray) (sep : ByteArray) (hN : xs.length ≤ 140737488355328) (hlen : (joinB xs sep).size ≤ 140737488355328) : Tri Tryd.prog 79 [strs xs, .str sep] [] (D (.str (joinB xs sep)) []) := by
  refine ⟨⟨_, Tryd.func79, rfl, rfl⟩, fun Fr w vs hst hrel => ?_⟩
  simp only [RelVs] at hrel
  obtain ⟨u1, us, rfl, h1, h1', u2, us2, rfl, h2, h2', rfl⟩ := hrel
  obtain ⟨A, c, hu, k1, k2, k3⟩ := srcOf_rel (v := strs xs) ⟨h1, h1'⟩ rfl
  have hs : u2 = .string sep := Rel.str ⟨h2, h2'⟩
  subst hu hs
  rw [List.length_map] at k1 ⊢
  have hmono : ∀ e w', e = Ending.returned (.string (joinB xs sep)) ∧ Below w.heap.size w w' → EndR Fr (reg []) w (D (.str (joinB xs sep)) []) e w' := by
    rintro e w' ⟨rfl, hb⟩
    have hext : Ext (fun _ _ => False) w w' := ⟨hb.os, hb.tape, hb.output, hb.size, fun k hk _ => hb.block k hk, fun ad v hc _ => (World.cell?_of_block (hb.block ad.block (cell_lt hc))).trans hc⟩
    exact ⟨_, _, ⟨rfl, rfl⟩, ⟨_, rfl, mk_str⟩, hst.grow hext, hext.mono fun _ _ h => h.elim, fun _ _ _ h => h⟩
  by_cases hx : xs = []
  · subst hx
    refine (Tryd.strings_Join_none A c sep w).mono fun e w' ⟨he, hw⟩ => hmono e w' ⟨he, hw ▸ Below.refl _ _⟩
  · obtain ⟨b, o, sz, rfl, hr⟩ := k3 (by simpa using hx)
    obtain ⟨ds, d1, d2, d3, d4⟩ := hr.cells
    have hsz1 : sz = 1 := by
      cases xs with
      | nil => exact (hx rfl).elim
      | cons x l => exact (d2 (.str x) (by simp)).symm
    subst hsz1
    have hcells : ∀ (j : Nat) x, xs[j]? = some x → w.cell? ⟨b, o + j, none⟩ = some (.string x) := fun j x hj => by
      obtain ⟨v, hv, hrv⟩ := RelCs.get1 d1 d2 j (.str x) (by simp [hj])
      simp only [RelC, List.cons.injEq, and_true] at hrv
      subst hrv
      exact (d4 j _ hv).2
    have hbk : b < w.heap.size := by
      cases xs with
      | nil => exact (hx rfl).elim
      | cons x l => exact cell_lt (hcells 0 x rfl)
    exact (Tryd.strings_Join b o c xs sep w hcells hbk hN k1 (by simpa [joinB, ByteArray.size] using hlen)).mono fun e w' h => hmono e w' h
end Go.Proofs.YtlpndgodkkndnaaDoor
namespace Go.Proofs.YtlpndgodkkndnaaDoor
open Go.RowKit Go.SX
set_option maxRecDepth 100000
set_option maxHeartbeats 4000000
set_option linter.unusedVariables false
set_option linter.unusedSimpArgs false
def chS (s : List UInt8) : ByteArray := ⟨s.toArray⟩
theorem bytesAV_append (a b : ByteArray) : bytesAV (a ++ b) = bytesAV a ++ bytesAV b := by simp [bytesAV]
def sp : ByteArray := ⟨#[32]⟩
def hdT (k : Int) (nm JV JA : ByteArray) : ByteArray :=
  if k = 0 then nm ++ ⟨#[40]⟩ ++ JA ++ ⟨#[41]⟩ else if k = 3 then ⟨#[110, 111, 116, 40]⟩ else if k = 5 then ⟨#[111, 114, 40]⟩ else ⟨#[97, 108, 108, 40]⟩ ++ JV ++ ⟨#[58, 32]⟩
mutual
def txA : GFml → List AV
  | ⟨k, ar, nm, vars, args, kids⟩ => bif k == 0 then bytesAV (hdT k nm (joinB vars sp) (joinB args sp)) else bytesAV (hdT k nm (joinB vars sp) (joinB args sp)) ++ txK true kids ++ [.int .u8 41]
def txK : Bool → List GFml → List AV
  | _, [] => []
  | fst, x :: l => (bif fst then [] else bytesAV ⟨#[44, 32]⟩) ++ txA x ++ txK false l
end
mutual
def wOk : GFml → Bool
  | ⟨k, ar, nm, vars, args, kids⟩ => decide (vars.length ≤ 1000000) && decide (args.length ≤ 1000000) && decide ((joinB vars sp).size ≤ 1000000) && decide ((joinB args sp).size ≤ 1000000) && decide (nm.size ≤ 1000000) && (k == 0 || k == 3 || (k == 5 && decide (0 < kids.length)) || k == 7) && wOks kids
def wOks : List GFml → Bool
  | [] => true
  | x :: l => wOk x && wOks l
end
def BW (b : Nat) (us : List AV) (h : AH) : Prop := (us = [] ∧ h = bld0 b) ∨ ∃ g tl, h = bldW b g us tl
theorem ws_any (b : Nat) (us : List AV) (h : AH) (s : ByteArray) (hB : BW b us h) (h0 : 0 < s.size) (hs : us.length + s.size ≤ 140737488355328) : Tri Tryd.prog 77 [.ref b 0, .str s] h (fun x h => (∃ v, x = .ret v) ∧ ∃ g tl, h = bldW b g (us ++ bytesAV s) tl) := by
  rcases hB with ⟨rfl, rfl⟩ | ⟨g, tl, rfl⟩
  · exact ws0 b s h0 (by simpa using hs)
  · exact wsW b g us tl s hs
def sepA (i : Nat) : List AV := bif i == 0 then [] else bytesAV ⟨#[44, 32]⟩
theorem wr_kids (k ar : Int) (nm : ByteArray) (vars args : List ByteArray) (kids : List GFml) (b : Nat) (hk : kids.length ≤ 1000000)
    (ih : ∀ x ∈ kids, ∀ g us tl, us.length + (txA x).length ≤ 1000000 → Tri Tryd.prog 52 [.ref b 0, x.st] (bldW b g us tl) (fun y h => y = .ret (.tup []) ∧ ∃ g' tl', h = bldW b g' (us ++ txA x) tl'))
    (g : Nat) (us tl : List AV) (hl : us.length + (txK true kids).length + 1 ≤ 1000000) :
    Tri Tryd.prog 76 [.at (.st [.int .i64 k, .int .i64 ar, .str nm, strs vars, strs args, .sl (kids.map GFml.av)]), .at (.ref b 0)] (bldW b g us tl) (fun y h => y = .ret (.tup []) ∧ ∃ g' tl', h = bldW b g' (us ++ txK true kids ++ [.int .u8 41]) tl') := by
  refine Tri.enter 22 Tryd.func76 rfl rfl rfl rfl fun Fr w0 => ?_
  repeat' (first | refine AW.re 0 4 ?_ | refine AW.jt ?_ | refine AW.jf ?_ | refine AW.jj (fun hb => ?_) (fun hb => ?_) | refine AW.go ?_ | fail)
  refine AW.prune [1, 5, 6, 7] (AW.loop (fun mz af h => ∃ (i : Nat) (gg : Nat) (uu : List AV) (tt : List AV), i ≤ kids.length ∧ mz = kids.length - i ∧ af = [(1, .at (.ref b 0)), (5, .sl (kids.map GFml.av)), (6, .int .i64 (kids.map GFml.av).length), (7, .int .i64 i)] ∧ h = bldW b gg uu tt ∧ (us ++ txK true kids = uu ++ txK (i == 0) (kids.drop i) ∧ uu.length + (txK (i == 0) (kids.drop i)).length + 1 ≤ 1000000)) kids.length ⟨0, g, us, tl, Nat.zero_le _, rfl, rfl, rfl, ⟨rfl, hl⟩⟩ ?_)
  rintro mz af h ⟨i, gg, uu, tt, hi, rfl, rfl, rfl, he⟩
  refine AW.seq ?_
  by_cases hlt : i < kids.length
  · obtain ⟨he, hle⟩ := he
    obtain ⟨x, hx⟩ := get_lt hlt
    have hx' : (kids.map GFml.av)[((i : Nat) : Int).toNat]? = some (x.st) := GFml.get hx
    rw [drop_cons hx, txK] at he hle
    have hsep : (bif (i == 0) then [] else bytesAV ⟨#[44, 32]⟩) = sepA i := rfl
    rw [hsep] at he hle
    simp only [List.length_append] at hle
    repeat' (first | refine AW.re 1 1 ?_ | refine AW.jt ?_ | refine AW.jf ?_ | refine AW.jj (fun hb => ?_) (fun hb => ?_) | refine AW.go ?_ | fail)
    all_goals try (exfalso; simp only [decide_eq_true_eq, decide_eq_false_iff_not, List.length_map] at *; omega)
    repeat' (first | (refine AW.r 2 ?_ <;> refine AL.es 1 ?_ <;> refine AL.d (AOp.index_sl rfl rfl (by omega) hx' (by kernel_rfl) rfl) ?_ <;> refine AL.es 1 ?_ <;> refine AL.alloc_new (by kernel_rfl) rfl fun b3 => ?_ <;> refine AL.es 1 ?_ <;> refine AL.store_new rfl rfl (by kernel_rfl) rfl rfl ?_ <;> refine AL.nil ?_) | refine AW.jt ?_ | refine AW.jf ?_ | refine AW.jj (fun hb => ?_) (fun hb => ?_) | fail)
    refine AW.seq ?_
    refine AW.cut (fun af ah => ∃ g1 t1, af = [(1, .at (.ref b 0)), (3, .at x.st), (5, .sl (kids.map GFml.av)), (6, .int .i64 (kids.map GFml.av).length), (7, .int .i64 i)] ∧ ah = bldW b g1 (uu ++ sepA i) t1) ?_ ?_
    · have hw := wsW b gg uu tt ⟨#[44, 32]⟩ (by show uu.length + 2 ≤ _; omega)
      repeat' (first | refine AW.re 3 2 ?_ | (refine AW.r 4 ?_ <;> refine AL.es 1 ?_ <;> (refine AL.callQ rfl rfl hw rfl ?_ ?_; rotate_left; rintro _ _ ⟨⟨_, e⟩, _⟩; cases e; rintro _ _ ⟨⟨v, e⟩, g2, t2, rfl⟩; injection e with e; subst e) <;> refine AL.nil ?_) | refine AW.jt ?_ | refine AW.jf ?_ | refine AW.jj (fun hb => ?_) (fun hb => ?_) | refine AW.go ?_ | fail)
      · have h0 : (i == 0) = false := by simp only [decide_eq_true_eq] at hb; simp; omega
        exact AW.meet [1, 3, 5, 6, 7] ⟨g2, t2, rfl, by rw [sepA, h0]; rfl⟩
      · have h0 : (i == 0) = true := by simp only [decide_eq_false_iff_not] at hb; simp; omega
        exact AW.meet [1, 3, 5, 6, 7] ⟨gg, tt, rfl, by rw [sepA, h0, cond_true, List.append_nil]⟩
    rintro af ah ⟨g1, t1, rfl, rfl⟩
    have hc := ih x (List.mem_of_getElem? hx) g1 (uu ++ sepA i) t1 (by simp only [List.length_append]; omega)
    repeat' (first | (refine AW.r 5 ?_ <;> refine AL.es 2 ?_ <;> (refine AL.callQ rfl rfl hc rfl ?_ ?_; rotate_left; rintro _ _ ⟨e, _⟩; cases e; rintro _ _ ⟨e, g2, t2, rfl⟩; injection e with e; subst e) <;> refine AL.nil ?_) | refine AW.jt ?_ | refine AW.jf ?_ | refine AW.jj (fun hb => ?_) (fun hb => ?_) | refine AW.go ?_ | fail)
    repeat' (first | (refine AW.r 6 ?_ <;> refine AL.d AOp.ad ?_ <;> refine AL.es 1 ?_ <;> refine AL.nil ?_) | refine AW.jt ?_ | refine AW.jf ?_ | refine AW.jj (fun hb => ?_) (fun hb => ?_) | refine AW.go ?_ | fail)
    have hi1 : (i + 1 == 0) = false := by simp
    refine AW.again_keep (kids.length - (i + 1)) [1, 5, 6, 7] (by omega) ⟨i + 1, g2, uu ++ sepA i ++ txA x, t2, hlt, rfl, rfl, rfl, ?_⟩
    rw [hi1]
    exact ⟨by rw [he]; simp only [List.append_assoc], by simp only [List.length_append]; omega⟩
  · obtain ⟨he, hle⟩ := he
    rw [List.drop_eq_nil_of_le (by omega), txK] at he
    have hw := wbW b gg uu tt 41 (by omega)
    repeat' (first | refine AW.re 1 1 ?_ | refine AW.jt ?_ | refine AW.jf ?_ | refine AW.jj (fun hb => ?_) (fun hb => ?_) | refine AW.go ?_ | fail)
    all_goals try (exfalso; simp only [decide_eq_true_eq, decide_eq_false_iff_not, List.length_map] at *; omega)
    repeat' (first | (refine AW.r 7 ?_ <;> refine AL.es 1 ?_ <;> (refine AL.callQ rfl rfl hw rfl ?_ ?_; rotate_left; rintro _ _ ⟨⟨_, e⟩, _⟩; cases e; rintro _ _ ⟨⟨v, e⟩, g2, t2, rfl⟩; injection e with e; subst e) <;> refine AL.nil ?_) | refine AW.jt ?_ | refine AW.jf ?_ | refine AW.jj (fun hb => ?_) (fun hb => ?_) | refine AW.go ?_ | fail)
    exact AW.donev rfl ⟨rfl, _, _, by rw [he, List.append_nil]⟩
end Go.Proofs.YtlpndgodkkndnaaDoor
namespace Go.Proofs.YtlpndgodkkndnaaDoor
open Go.RowKit Go.SX
set_option maxRecDepth 100000
set_option maxHeartbeats 4000000
set_option linter.unusedVariables false
set_option linter.unusedSimpArgs false
theorem wOks_mem {l : List GFml} {x : GFml} (h : wOks l = true) (hx : x ∈ l) : wOk x = true := by
  induction l with
  | nil => cases hx
  | cons y l ih =>
    rw [wOks, Bool.and_eq_true] at h
    rcases List.mem_cons.1 hx with rfl | hx
    · exact h.1
    · exact ih h.2 hx
theorem wr_write : ∀ (N : Nat) (f : GFml) (b : Nat) (us : List AV) (h : AH), ndF f ≤ N → f.Ok → wOk f = true → ndF f ≤ 1000000 → BW b us h → us.length + (txA f).length ≤ 1000000 →
    Tri Tryd.prog 52 [.ref b 0, f.st] h (fun y h' => y = .ret (.tup []) ∧ ∃ g' tl', h' = bldW b g' (us ++ txA f) tl') := by
  intro N
  induction N using Nat.strongRecOn with
  | _ N ih =>
    intro f b us h hN ho hw hnm hB hlen
    have hnd := ndF_eq f
    have hkl := ndFs_len f.Kids
    obtain ⟨_, q6, q7⟩ := ho
    have hK := fun (hw : wOks f.Kids = true) x (hx : x ∈ f.Kids) g us tl hl => ih (ndF x) (by have := ndFs_mem hx; omega) x b us (bldW b g us tl) (Nat.le_refl _) (q7 x hx) (wOks_mem hw hx) (by have := ndFs_mem hx; omega) (.inr ⟨g, tl, rfl⟩) hl
    obtain ⟨k, ar, nm, vars, args, kids⟩ := f
    simp only at *
    rw [wOk] at hw
    simp only [Bool.and_eq_true, decide_eq_true_eq] at hw
    obtain ⟨⟨⟨⟨⟨⟨w1, w2⟩, w3⟩, w4⟩, w5⟩, w6⟩, w7⟩ := hw
    have hV := Join_str vars sp (by omega) (by omega)
    have hA := Join_str args sp (by omega) (by omega)
    have hC := fun g us tl hl => wr_kids k ar nm vars args kids b (by omega) (hK w7) g us tl hl
    rw [txA] at hlen ⊢
    have hk : k = 0 ∨ k = 3 ∨ (k = 5 ∧ 0 < kids.length) ∨ k = 7 := by
      simp only [Bool.or_eq_true, Bool.and_eq_true, beq_iff_eq, decide_eq_true_eq] at w6
      omega
    have z1 : (⟨#[40]⟩ : ByteArray).size = 1 := rfl
    have z2 : (⟨#[41]⟩ : ByteArray).size = 1 := rfl
    have z3 : (⟨#[97, 108, 108, 40]⟩ : ByteArray).size = 4 := rfl
    have z4 : (⟨#[58, 32]⟩ : ByteArray).size = 2 := rfl
    have z5 : (⟨#[110, 111, 116, 40]⟩ : ByteArray).size = 4 ∧ (⟨#[111, 114, 40]⟩ : ByteArray).size = 3 := ⟨rfl, rfl⟩
    generalize joinB vars sp = JV at *
    generalize joinB args sp = JA at *
    rcases hk with rfl | rfl | ⟨rfl, hpos⟩ | rfl
    · have e0 : ((0 : Int) == 0) = true := rfl
      rw [e0, cond_true] at hlen ⊢
      generalize hhd : hdT 0 nm JV JA = hd at *
      have hd' : hd = nm ++ ⟨#[40]⟩ ++ JA ++ ⟨#[41]⟩ := by rw [← hhd]; rfl
      have hsz : 0 < hd.size ∧ hd.size ≤ 2000010 := by rw [hd']; simp only [ByteArray.size_append, z1, z2]; omega
      rw [bytesAV_length] at hlen
      have hw1 := ws_any b us h hd hB hsz.1 (by omega)
      rw [hd'] at hw1
      refine Tri.enter 153 Tryd.func52 rfl rfl rfl rfl fun Fr w0 => ?_
      repeat' (first | (refine AW.r 0 ?_ <;> (first | refine AL.d (AOp.box_ro (v := .ref b 0) rfl rfl) ?_ | refine AL.d (AOp.box_ro (v := .st [.int .i64 0, .int .i64 ar, .str nm, strs vars, strs args, .sl (kids.map GFml.av)]) rfl rfl) ?_ | refine AL.d (AOp.box_ro rfl rfl) ?_) <;> (first | refine AL.d (AOp.box_ro (v := .ref b 0) rfl rfl) ?_ | refine AL.d (AOp.box_ro (v := .st [.int .i64 0, .int .i64 ar, .str nm, strs vars, strs args, .sl (kids.map GFml.av)]) rfl rfl) ?_ | refine AL.d (AOp.box_ro rfl rfl) ?_) <;> refine AL.nil ?_) | refine AW.re 1 2 ?_ | (refine AW.dq 2 ?_ <;> refine AQ.es 2 ?_ <;> (first | refine AQ.p rfl (AOp.call rfl rfl (hV.pure _)) ?_ | refine AQ.p rfl (AOp.call rfl rfl (hA.pure _)) ?_) <;> refine AQ.es 2 ?_ <;> (first | refine AQ.p rfl (AOp.call rfl rfl (hV.pure _)) ?_ | refine AQ.p rfl (AOp.call rfl rfl (hA.pure _)) ?_) <;> refine AQ.es 2 ?_ <;> refine AQ.nil ?_) | refine AW.re 3 2 ?_ | refine AW.re 4 2 ?_ | (refine AW.r 5 ?_ <;> refine AL.es 3 ?_ <;> (first | (refine AL.d (AOp.str_add rfl rfl (by simp only [ByteArray.size_append, z1, z2, z3, z4]; omega)) ?_) | refine AL.d AOp.ad ?_) <;> refine AL.es 1 ?_ <;> (first | (refine AL.d (AOp.str_add rfl rfl (by simp only [ByteArray.size_append, z1, z2, z3, z4]; omega)) ?_) | refine AL.d AOp.ad ?_) <;> (first | (refine AL.d (AOp.str_add rfl rfl (by simp only [ByteArray.size_append, z1, z2, z3, z4]; omega)) ?_) | refine AL.d AOp.ad ?_) <;> (first | ((refine AL.callQ rfl rfl hw1 rfl ?_ ?_; rotate_left; rintro _ _ ⟨⟨_, e⟩, _⟩; cases e; rintro _ _ ⟨⟨v, e⟩, g1, t1, rfl⟩; injection e with e; subst e)) | refine AL.d (AOp.call rfl rfl (hV.pure _)) ?_ | refine AL.d (AOp.call rfl rfl (hA.pure _)) ?_) <;> refine AL.nil ?_) | refine AW.jt ?_ | refine AW.jf ?_ | refine AW.jj (fun hb => ?_) (fun hb => ?_) | refine AW.go ?_ | fail)
      exact AW.donev rfl ⟨rfl, _, _, by rw [hd']⟩
    · have e0 : ((3 : Int) == 0) = false := rfl
      rw [e0, cond_false] at hlen ⊢
      generalize hhd : hdT 3 nm JV JA = hd at *
      have hd' : hd = ⟨#[110, 111, 116, 40]⟩ := by rw [← hhd]; rfl
      have hsz : 0 < hd.size ∧ hd.size ≤ 2000010 := by rw [hd']; simp only [ByteArray.size_append, z1, z2, z3, z4, z5]; omega
      simp only [List.length_append, List.length_singleton, bytesAV_length] at hlen
      have hw1 := ws_any b us h hd hB hsz.1 (by omega)
      rw [hd'] at hw1
      refine Tri.enter 153 Tryd.func52 rfl rfl rfl rfl fun Fr w0 => ?_
      repeat' (first | (refine AW.r 0 ?_ <;> (first | refine AL.d (AOp.box_ro (v := .ref b 0) rfl rfl) ?_ | refine AL.d (AOp.box_ro (v := .st [.int .i64 3, .int .i64 ar, .str nm, strs vars, strs args, .sl (kids.map GFml.av)]) rfl rfl) ?_ | refine AL.d (AOp.box_ro rfl rfl) ?_) <;> (first | refine AL.d (AOp.box_ro (v := .ref b 0) rfl rfl) ?_ | refine AL.d (AOp.box_ro (v := .st [.int .i64 3, .int .i64 ar, .str nm, strs vars, strs args, .sl (kids.map GFml.av)]) rfl rfl) ?_ | refine AL.d (AOp.box_ro rfl rfl) ?_) <;> refine AL.nil ?_) | refine AW.re 1 2 ?_ | (refine AW.dq 2 ?_ <;> refine AQ.es 2 ?_ <;> (first | refine AQ.p rfl (AOp.call rfl rfl (hV.pure _)) ?_ | refine AQ.p rfl (AOp.call rfl rfl (hA.pure _)) ?_) <;> refine AQ.es 2 ?_ <;> (first | refine AQ.p rfl (AOp.call rfl rfl (hV.pure _)) ?_ | refine AQ.p rfl (AOp.call rfl rfl (hA.pure _)) ?_) <;> refine AQ.es 2 ?_ <;> refine AQ.nil ?_) | refine AW.re 3 2 ?_ | refine AW.re 4 2 ?_ | refine AW.re 6 2 ?_ | refine AW.re 8 2 ?_ | refine AW.re 10 2 ?_ | (refine AW.r 11 ?_ <;> refine AL.es 1 ?_ <;> (first | ((refine AL.callQ rfl rfl hw1 rfl ?_ ?_; rotate_left; rintro _ _ ⟨⟨_, e⟩, _⟩; cases e; rintro _ _ ⟨⟨v, e⟩, g1, t1, rfl⟩; injection e with e; subst e)) | refine AL.d (AOp.call rfl rfl (hV.pure _)) ?_ | refine AL.d (AOp.call rfl rfl (hA.pure _)) ?_) <;> refine AL.nil ?_) | refine AW.jt ?_ | refine AW.jf ?_ | refine AW.jj (fun hb => ?_) (fun hb => ?_) | refine AW.go ?_ | fail)
      rw [← hd']
      have hc := hC g1 (us ++ bytesAV hd) t1 (by simp only [List.length_append, bytesAV_length]; omega)
      repeat' (first | (refine AW.r 12 ?_ <;> refine AL.es 1 ?_ <;> (refine AL.callQ rfl rfl hc rfl ?_ ?_; rotate_left; rintro _ _ ⟨e, _⟩; cases e; rintro _ _ ⟨e, g2, t2, rfl⟩; injection e with e; subst e) <;> refine AL.nil ?_) | refine AW.jt ?_ | refine AW.jf ?_ | refine AW.jj (fun hb => ?_) (fun hb => ?_) | refine AW.go ?_ | fail)
      exact AW.donev rfl ⟨rfl, g2, t2, by simp only [List.append_assoc]⟩
    · have e0 : ((5 : Int) == 0) = false := rfl
      rw [e0, cond_false] at hlen ⊢
      generalize hhd : hdT 5 nm JV JA = hd at *
      have hd' : hd = ⟨#[111, 114, 40]⟩ := by rw [← hhd]; rfl
      have hsz : 0 < hd.size ∧ hd.size ≤ 2000010 := by rw [hd']; simp only [ByteArray.size_append, z1, z2, z3, z4, z5]; omega
      simp only [List.length_append, List.length_singleton, bytesAV_length] at hlen
      have hw1 := ws_any b us h hd hB hsz.1 (by omega)
      rw [hd'] at hw1
      refine Tri.enter 153 Tryd.func52 rfl rfl rfl rfl fun Fr w0 => ?_
      repeat' (first | (refine AW.r 0 ?_ <;> (first | refine AL.d (AOp.box_ro (v := .ref b 0) rfl rfl) ?_ | refine AL.d (AOp.box_ro (v := .st [.int .i64 5, .int .i64 ar, .str nm, strs vars, strs args, .sl (kids.map GFml.av)]) rfl rfl) ?_ | refine AL.d (AOp.box_ro rfl rfl) ?_) <;> (first | refine AL.d (AOp.box_ro (v := .ref b 0) rfl rfl) ?_ | refine AL.d (AOp.box_ro (v := .st [.int .i64 5, .int .i64 ar, .str nm, strs vars, strs args, .sl (kids.map GFml.av)]) rfl rfl) ?_ | refine AL.d (AOp.box_ro rfl rfl) ?_) <;> refine AL.nil ?_) | refine AW.re 1 2 ?_ | (refine AW.dq 2 ?_ <;> refine AQ.es 2 ?_ <;> (first | refine AQ.p rfl (AOp.call rfl rfl (hV.pure _)) ?_ | refine AQ.p rfl (AOp.call rfl rfl (hA.pure _)) ?_) <;> refine AQ.es 2 ?_ <;> (first | refine AQ.p rfl (AOp.call rfl rfl (hV.pure _)) ?_ | refine AQ.p rfl (AOp.call rfl rfl (hA.pure _)) ?_) <;> refine AQ.es 2 ?_ <;> refine AQ.nil ?_) | refine AW.re 3 2 ?_ | refine AW.re 4 2 ?_ | refine AW.re 6 2 ?_ | refine AW.re 8 2 ?_ | refine AW.re 10 2 ?_ | refine AW.re 13 2 ?_ | refine AW.re 14 2 ?_ | (refine AW.r 15 ?_ <;> (first | refine AL.d (AOp.buildA (z := .st [.str empB, .str empB]) (n := 2) (sz := 1) (zc := [.string ⟨#[]⟩, .string ⟨#[]⟩]) (by kernel_rfl) rfl rfl rfl) ?_ | refine AL.d (AOp.buildA (z := .st [.st [.str empB, .str empB], .st [.str empB, .str empB]]) (n := 2) (sz := 2) (zc := [.string ⟨#[]⟩, .string ⟨#[]⟩, .string ⟨#[]⟩, .string ⟨#[]⟩]) (by kernel_rfl) rfl rfl rfl) ?_) <;> (first | refine AL.d (AOp.buildA (z := .st [.str empB, .str empB]) (n := 2) (sz := 1) (zc := [.string ⟨#[]⟩, .string ⟨#[]⟩]) (by kernel_rfl) rfl rfl rfl) ?_ | refine AL.d (AOp.buildA (z := .st [.st [.str empB, .str empB], .st [.str empB, .str empB]]) (n := 2) (sz := 2) (zc := [.string ⟨#[]⟩, .string ⟨#[]⟩, .string ⟨#[]⟩, .string ⟨#[]⟩]) (by kernel_rfl) rfl rfl rfl) ?_) <;> (first | refine AL.d (AOp.buildA (z := .st [.str empB, .str empB]) (n := 2) (sz := 1) (zc := [.string ⟨#[]⟩, .string ⟨#[]⟩]) (by kernel_rfl) rfl rfl rfl) ?_ | refine AL.d (AOp.buildA (z := .st [.st [.str empB, .str empB], .st [.str empB, .str empB]]) (n := 2) (sz := 2) (zc := [.string ⟨#[]⟩, .string ⟨#[]⟩, .string ⟨#[]⟩, .string ⟨#[]⟩]) (by kernel_rfl) rfl rfl rfl) ?_) <;> refine AL.es 2 ?_ <;> (first | (refine AL.d (AOp.str_add rfl rfl (by simp only [ByteArray.size_append, z1, z2, z3, z4]; omega)) ?_) | refine AL.d AOp.sb ?_) <;> refine AL.d (AOp.index_arrA (n := 2) (e := 102) rfl rfl (by omega) (by omega) rfl (by kernel_rfl) (by kernel_rfl) rfl) ?_ <;> refine AL.alloc_store (by kernel_rfl) rfl rfl rfl rfl ?_ <;> refine AL.nil ?_) | refine AW.re 16 4 ?_ | refine AW.jt ?_ | refine AW.jf ?_ | refine AW.jj (fun hb => ?_) (fun hb => ?_) | refine AW.go ?_ | fail)
      all_goals try (exfalso; simp only [List.length_map, beq_iff_eq] at hb; omega)
      repeat' (first | (refine AW.r 18 ?_ <;> refine AL.es 1 ?_ <;> refine AL.d (AOp.index_at (n := 2) (sz := 1) (zc := [.string ⟨#[]⟩, .string ⟨#[]⟩]) rfl rfl (by omega) (by omega) rfl (by kernel_rfl) rfl) ?_ <;> refine AL.es 1 ?_ <;> (first | ((refine AL.callQ rfl rfl hw1 rfl ?_ ?_; rotate_left; rintro _ _ ⟨⟨_, e⟩, _⟩; cases e; rintro _ _ ⟨⟨v, e⟩, g1, t1, rfl⟩; injection e with e; subst e)) | refine AL.d (AOp.call rfl rfl (hV.pure _)) ?_ | refine AL.d (AOp.call rfl rfl (hA.pure _)) ?_) <;> refine AL.nil ?_) | refine AW.jt ?_ | refine AW.jf ?_ | refine AW.jj (fun hb => ?_) (fun hb => ?_) | refine AW.go ?_ | fail)
      rw [← hd']
      have hc := hC g1 (us ++ bytesAV hd) t1 (by simp only [List.length_append, bytesAV_length]; omega)
      repeat' (first | (refine AW.r 19 ?_ <;> refine AL.es 1 ?_ <;> (refine AL.callQ rfl rfl hc rfl ?_ ?_; rotate_left; rintro _ _ ⟨e, _⟩; cases e; rintro _ _ ⟨e, g2, t2, rfl⟩; injection e with e; subst e) <;> refine AL.nil ?_) | refine AW.jt ?_ | refine AW.jf ?_ | refine AW.jj (fun hb => ?_) (fun hb => ?_) | refine AW.go ?_ | fail)
      exact AW.donev rfl ⟨rfl, g2, t2, by simp only [List.append_assoc]⟩
    · have e0 : ((7 : Int) == 0) = false := rfl
      rw [e0, cond_false] at hlen ⊢
      generalize hhd : hdT 7 nm JV JA = hd at *
      have hd' : hd = ⟨#[97, 108, 108, 40]⟩ ++ JV ++ ⟨#[58, 32]⟩ := by rw [← hhd]; rfl
      have hsz : 0 < hd.size ∧ hd.size ≤ 2000010 := by rw [hd']; simp only [ByteArray.size_append, z1, z2, z3, z4, z5]; omega
      simp only [List.length_append, List.length_singleton, bytesAV_length] at hlen
      have hw1 := ws_any b us h hd hB hsz.1 (by omega)
      rw [hd'] at hw1
      refine Tri.enter 153 Tryd.func52 rfl rfl rfl rfl fun Fr w0 => ?_
      repeat' (first | (refine AW.r 0 ?_ <;> (first | refine AL.d (AOp.box_ro (v := .ref b 0) rfl rfl) ?_ | refine AL.d (AOp.box_ro (v := .st [.int .i64 7, .int .i64 ar, .str nm, strs vars, strs args, .sl (kids.map GFml.av)]) rfl rfl) ?_ | refine AL.d (AOp.box_ro rfl rfl) ?_) <;> (first | refine AL.d (AOp.box_ro (v := .ref b 0) rfl rfl) ?_ | refine AL.d (AOp.box_ro (v := .st [.int .i64 7, .int .i64 ar, .str nm, strs vars, strs args, .sl (kids.map GFml.av)]) rfl rfl) ?_ | refine AL.d (AOp.box_ro rfl rfl) ?_) <;> refine AL.nil ?_) | refine AW.re 1 2 ?_ | (refine AW.dq 2 ?_ <;> refine AQ.es 2 ?_ <;> (first | refine AQ.p rfl (AOp.call rfl rfl (hV.pure _)) ?_ | refine AQ.p rfl (AOp.call rfl rfl (hA.pure _)) ?_) <;> refine AQ.es 2 ?_ <;> (first | refine AQ.p rfl (AOp.call rfl rfl (hV.pure _)) ?_ | refine AQ.p rfl (AOp.call rfl rfl (hA.pure _)) ?_) <;> refine AQ.es 2 ?_ <;> refine AQ.nil ?_) | refine AW.re 3 2 ?_ | refine AW.re 4 2 ?_ | refine AW.re 6 2 ?_ | refine AW.re 8 2 ?_ | refine AW.re 10 2 ?_ | refine AW.re 13 2 ?_ | refine AW.re 14 2 ?_ | refine AW.re 20 2 ?_ | refine AW.re 21 2 ?_ | (refine AW.dl 22 9 ?_ <;> refine AQ.es 1 ?_ <;> refine AQ.p rfl (AOp.buildA (z := .st [.str empB, .str empB]) (n := 2) (sz := 1) (zc := [.string ⟨#[]⟩, .string ⟨#[]⟩]) (by kernel_rfl) rfl rfl rfl) ?_ <;> refine AQ.es 2 ?_ <;> (first | (refine AQ.p rfl (AOp.str_add rfl rfl (by simp only [ByteArray.size_append, z1, z2, z3, z4]; omega)) ?_) | refine AQ.p rfl AOp.sb ?_) <;> refine AQ.p rfl (AOp.index_arr (n := 2) (e := 9) rfl rfl (by omega) (by omega) rfl (by kernel_rfl) (by kernel_rfl) rfl) ?_ <;> refine AQ.es 1 ?_ <;> (first | (refine AQ.p rfl (AOp.str_add rfl rfl (by simp only [ByteArray.size_append, z1, z2, z3, z4]; omega)) ?_) | refine AQ.p rfl AOp.ad ?_) <;> (first | (refine AQ.p rfl (AOp.str_add rfl rfl (by simp only [ByteArray.size_append, z1, z2, z3, z4]; omega)) ?_) | refine AQ.p rfl AOp.ad ?_) <;> refine AQ.nil ?_ <;> (first | ((refine AL.callQ rfl rfl hw1 rfl ?_ ?_; rotate_left; rintro _ _ ⟨⟨_, e⟩, _⟩; cases e; rintro _ _ ⟨⟨v, e⟩, g1, t1, rfl⟩; injection e with e; subst e)) | refine AL.d (AOp.call rfl rfl (hV.pure _)) ?_ | refine AL.d (AOp.call rfl rfl (hA.pure _)) ?_) <;> refine AL.nil ?_) | refine AW.jt ?_ | refine AW.jf ?_ | refine AW.jj (fun hb => ?_) (fun hb => ?_) | refine AW.go ?_ | fail)
      rw [← hd']
      have hc := hC g1 (us ++ bytesAV hd) t1 (by simp only [List.length_append, bytesAV_length]; omega)
      repeat' (first | (refine AW.r 23 ?_ <;> refine AL.es 1 ?_ <;> (refine AL.callQ rfl rfl hc rfl ?_ ?_; rotate_left; rintro _ _ ⟨e, _⟩; cases e; rintro _ _ ⟨e, g2, t2, rfl⟩; injection e with e; subst e) <;> refine AL.nil ?_) | refine AW.jt ?_ | refine AW.jf ?_ | refine AW.jj (fun hb => ?_) (fun hb => ?_) | refine AW.go ?_ | fail)
      exact AW.donev rfl ⟨rfl, g2, t2, by simp only [List.append_assoc]⟩
end Go.Proofs.YtlpndgodkkndnaaDoor
namespace Go.Proofs.YtlpndgodkkndnaaDoor
open Go.RowKit Go.SX
set_option maxRecDepth 100000
set_option maxHeartbeats 4000000
set_option linter.unusedVariables false
set_option linter.unusedSimpArgs false
theorem f_Text (f : GFml) (ho : f.Ok) (hv : validF f = true) (hw : wOk f = true) (hn : ndF f ≤ 1000000) (l : List UInt8) (hl : txA f = bytesAV ⟨l.toArray⟩) (h0 : l ≠ []) (h4 : l.length ≤ 40000) :
    Tri Tryd.prog 29 [f.st] [] (D (.tup [.str ⟨l.toArray⟩, .int .i64 0]) []) := by
  have hV := f_Valid f ho
  have hbl : (bytesAV ⟨l.toArray⟩).length = l.length := by rw [bytesAV_length]; simp [ByteArray.size]
  have hW := fun b => wr_write _ f b [] (bld0 b) (Nat.le_refl _) ho hw hn (.inl ⟨rfl, rfl⟩) (by rw [hl, hbl]; simp; omega)
  rw [hl, List.nil_append] at hW
  rw [hv] at hV
  clear hl hv hw hn
  obtain ⟨k, ar, nm, vars, args, kids⟩ := f
  refine Tri.enter 13 Tryd.func29 rfl rfl rfl rfl fun Fr w0 => ?_
  repeat' (first | (refine AW.r 0 ?_ <;> (first | refine AL.d (AOp.box_ro (v := .st [.int .i64 k, .int .i64 ar, .str nm, strs vars, strs args, .sl (kids.map GFml.av)]) rfl rfl) ?_ | refine AL.d (AOp.box_ro rfl rfl) ?_) <;> refine AL.es 2 ?_ <;> refine AL.nil ?_) | (refine AW.r 1 ?_ <;> refine AL.es 1 ?_ <;> refine AL.d (AOp.call rfl rfl (hV.pure _)) ?_ <;> refine AL.es 1 ?_ <;> refine AL.nil ?_) | refine AW.jt ?_ | refine AW.jf ?_ | refine AW.jj (fun hb => ?_) (fun hb => ?_) | refine AW.go ?_ | fail)
  repeat' (first | (refine AW.r 3 ?_ <;> refine AL.alloc_t [.val (.pointer none), nilS] (by kernel_rfl) rfl (by simp [AV.size, nilS]; exact ⟨rfl, rfl⟩) rfl fun b => ?_ <;> refine AL.nil ?_) | refine AW.jt ?_ | refine AW.jf ?_ | refine AW.jj (fun hb => ?_) (fun hb => ?_) | refine AW.go ?_ | fail)
  have hw := hW b
  repeat' (first | (refine AW.r 4 ?_ <;> refine AL.es 1 ?_ <;> (refine AL.callQ rfl rfl hw rfl ?_ ?_; rotate_left; rintro _ _ ⟨e, _⟩; cases e; rintro _ _ ⟨e, g, t, rfl⟩; injection e with e; subst e) <;> refine AL.nil ?_) | refine AW.jt ?_ | refine AW.jf ?_ | refine AW.jj (fun hb => ?_) (fun hb => ?_) | refine AW.go ?_ | fail)
  have hL := lenW b g (bytesAV ⟨l.toArray⟩) t
  rw [hbl] at hL
  have hS := strW b g l t h0 (by omega)
  repeat' (first | (refine AW.r 5 ?_ <;> (first | refine AL.d (AOp.call rfl rfl hL) ?_ | refine AL.d (AOp.call rfl rfl hS) ?_) <;> refine AL.es 1 ?_ <;> refine AL.nil ?_) | (refine AW.r 7 ?_ <;> (first | refine AL.d (AOp.call rfl rfl hL) ?_ | refine AL.d (AOp.call rfl rfl hS) ?_) <;> refine AL.es 2 ?_ <;> refine AL.nil ?_) | refine AW.jt ?_ | refine AW.jf ?_ | refine AW.jj (fun hb => ?_) (fun hb => ?_) | refine AW.go ?_ | fail)
  · exfalso; simp only [decide_eq_true_eq] at hb; omega
  exact AW.retv rfl ⟨rfl, rfl⟩
def bsx : ByteArray := ⟨#[120]⟩
def bsy : ByteArray := ⟨#[121]⟩
def alF : GFml := ⟨3, 0, empB, [], [], [⟨6, 0, empB, [bsx], [], [⟨4, 0, empB, [], [], [⟨0, 0, ⟨#[69]⟩, [], [bsx, bsy], []⟩, ⟨3, 0, empB, [], [], [⟨0, 0, ⟨#[80]⟩, [], [bsx], []⟩]⟩]⟩]⟩]⟩
def alG : GFml := ⟨7, 0, empB, [bsx], [], [⟨5, 0, empB, [], [], [⟨3, 0, empB, [], [], [⟨0, 0, ⟨#[69]⟩, [], [bsx, bsy], []⟩]⟩, ⟨0, 0, ⟨#[80]⟩, [], [bsx], []⟩]⟩]⟩
def alT : List UInt8 := [97, 108, 108, 40, 120, 58, 32, 111, 114, 40, 110, 111, 116, 40, 69, 40, 120, 32, 121, 41, 41, 44, 32, 80, 40, 120, 41, 41, 41]
theorem al_valid : validF alF = true := by kernel_rfl
theorem al_validG : validF alG = true := by kernel_rfl
theorem al_nnf : nnF alF false = alG := rfl
theorem al_tx : txA alG = bytesAV ⟨alT.toArray⟩ := by kernel_rfl
theorem al_w : wOk alG = true := by kernel_rfl
theorem al_ok : alF.Ok := by
  have hl : ∀ (l : List ByteArray), l.length ≤ 2 → (∀ s ∈ l, s.size ≤ 2) → lenOk 16 strOk l := fun l h1 h2 => ⟨by omega, fun s hs => by have := h2 s hs; show s.size ≤ _; omega⟩
  have hs : ∀ (s : ByteArray), s.size ≤ 2 → strOk s := fun s h => by show s.size ≤ _; omega
  have hb : ∀ s ∈ ([bsx, bsy] : List ByteArray), s.size ≤ 2 := by intro s h; simp at h; rcases h with rfl | rfl <;> decide
  have hb1 : ∀ s ∈ ([bsx] : List ByteArray), s.size ≤ 2 := by intro s h; simp at h; subst h; decide
  have hb0 : ∀ s ∈ ([] : List ByteArray), s.size ≤ 2 := by intro s h; cases h
  refine .mk ⟨rfl, rfl, hs _ (by decide), hl _ (by decide) hb0, hl _ (by decide) hb0⟩ (by decide) fun x hx => ?_
  obtain rfl := List.mem_singleton.1 hx
  refine .mk ⟨rfl, rfl, hs _ (by decide), hl _ (by decide) hb1, hl _ (by decide) hb0⟩ (by decide) fun x hx => ?_
  obtain rfl := List.mem_singleton.1 hx
  refine .mk ⟨rfl, rfl, hs _ (by decide), hl _ (by decide) hb0, hl _ (by decide) hb0⟩ (by decide) fun x hx => ?_
  rcases List.mem_cons.1 hx with rfl | hx
  · exact .mk ⟨rfl, rfl, hs _ (by decide), hl _ (by decide) hb0, hl _ (by decide) hb⟩ (by decide) fun x hx => by cases hx
  obtain rfl := List.mem_singleton.1 hx
  refine .mk ⟨rfl, rfl, hs _ (by decide), hl _ (by decide) hb0, hl _ (by decide) hb0⟩ (by decide) fun x hx => ?_
  obtain rfl := List.mem_singleton.1 hx
  exact .mk ⟨rfl, rfl, hs _ (by decide), hl _ (by decide) hb0, hl _ (by decide) hb1⟩ (by decide) fun x hx => by cases hx
theorem P_cons {P : AV → Prop} {y : AV} {l : List AV} (h : P y) (k : ∀ x ∈ l, P x) : ∀ x ∈ y :: l, P x := fun x hx => (List.mem_cons.1 hx).elim (fun e => e ▸ h) (k x)
theorem alive : Tri Tryd.prog 9 [] [] (D (.bool true) []) := by
  have hN := n_Nnf alF al_ok
  have hn : nnfP alF = (alG, 0) := by rw [nnfP, al_valid, cond_true, al_nnf, fitF, al_validG, cond_true]
  rw [hn] at hN
  have hT := f_Text alG (by rw [← al_nnf]; exact nn_ok _ _ al_ok) al_validG al_w (by decide) alT al_tx (by decide) (by decide)
  refine Tri.enter 37 Tryd.func9 rfl rfl rfl rfl fun Fr w0 => ?_
  repeat' (first | refine AW.re 0 1 ?_ | (refine AW.r 1 ?_ <;> (first | refine AL.d (AOp.lit (t := 22) (e := 9) (sz := 1) (by kernel_rfl) rfl rfl rfl (by repeat' first | exact P_nil | refine P_cons rfl ?_) (by decide)) ?_ | refine AL.d (AOp.lit (t := 23) (e := 25) (sz := 6) (by kernel_rfl) rfl rfl rfl (by repeat' first | exact P_nil | refine P_cons rfl ?_) (by decide)) ?_) <;> (first | refine AL.d (AOp.lit (t := 22) (e := 9) (sz := 1) (by kernel_rfl) rfl rfl rfl (by repeat' first | exact P_nil | refine P_cons rfl ?_) (by decide)) ?_ | refine AL.d (AOp.lit (t := 23) (e := 25) (sz := 6) (by kernel_rfl) rfl rfl rfl (by repeat' first | exact P_nil | refine P_cons rfl ?_) (by decide)) ?_) <;> refine AL.d (AOp.build (pl := [(0, 1), (1, 1), (2, 1), (3, 1), (4, 1), (5, 1)]) (z := .st [.int .i64 0, .int .i64 0, .str ⟨#[]⟩, .sl [], .sl [], .sl []]) (by kernel_rfl) rfl rfl rfl) ?_ <;> (first | refine AL.d (AOp.lit (t := 22) (e := 9) (sz := 1) (by kernel_rfl) rfl rfl rfl (by repeat' first | exact P_nil | refine P_cons rfl ?_) (by decide)) ?_ | refine AL.d (AOp.lit (t := 23) (e := 25) (sz := 6) (by kernel_rfl) rfl rfl rfl (by repeat' first | exact P_nil | refine P_cons rfl ?_) (by decide)) ?_) <;> refine AL.d (AOp.build (pl := [(0, 1), (1, 1), (2, 1), (3, 1), (4, 1), (5, 1)]) (z := .st [.int .i64 0, .int .i64 0, .str ⟨#[]⟩, .sl [], .sl [], .sl []]) (by kernel_rfl) rfl rfl rfl) ?_ <;> (first | refine AL.d (AOp.lit (t := 22) (e := 9) (sz := 1) (by kernel_rfl) rfl rfl rfl (by repeat' first | exact P_nil | refine P_cons rfl ?_) (by decide)) ?_ | refine AL.d (AOp.lit (t := 23) (e := 25) (sz := 6) (by kernel_rfl) rfl rfl rfl (by repeat' first | exact P_nil | refine P_cons rfl ?_) (by decide)) ?_) <;> refine AL.d (AOp.build (pl := [(0, 1), (1, 1), (2, 1), (3, 1), (4, 1), (5, 1)]) (z := .st [.int .i64 0, .int .i64 0, .str ⟨#[]⟩, .sl [], .sl [], .sl []]) (by kernel_rfl) rfl rfl rfl) ?_ <;> (first | refine AL.d (AOp.lit (t := 22) (e := 9) (sz := 1) (by kernel_rfl) rfl rfl rfl (by repeat' first | exact P_nil | refine P_cons rfl ?_) (by decide)) ?_ | refine AL.d (AOp.lit (t := 23) (e := 25) (sz := 6) (by kernel_rfl) rfl rfl rfl (by repeat' first | exact P_nil | refine P_cons rfl ?_) (by decide)) ?_) <;> refine AL.d (AOp.build (pl := [(0, 1), (1, 1), (2, 1), (3, 1), (4, 1), (5, 1)]) (z := .st [.int .i64 0, .int .i64 0, .str ⟨#[]⟩, .sl [], .sl [], .sl []]) (by kernel_rfl) rfl rfl rfl) ?_ <;> (first | refine AL.d (AOp.lit (t := 22) (e := 9) (sz := 1) (by kernel_rfl) rfl rfl rfl (by repeat' first | exact P_nil | refine P_cons rfl ?_) (by decide)) ?_ | refine AL.d (AOp.lit (t := 23) (e := 25) (sz := 6) (by kernel_rfl) rfl rfl rfl (by repeat' first | exact P_nil | refine P_cons rfl ?_) (by decide)) ?_) <;> refine AL.d (AOp.build (pl := [(0, 1), (1, 1), (2, 1), (3, 1), (4, 1), (5, 1)]) (z := .st [.int .i64 0, .int .i64 0, .str ⟨#[]⟩, .sl [], .sl [], .sl []]) (by kernel_rfl) rfl rfl rfl) ?_ <;> (first | refine AL.d (AOp.lit (t := 22) (e := 9) (sz := 1) (by kernel_rfl) rfl rfl rfl (by repeat' first | exact P_nil | refine P_cons rfl ?_) (by decide)) ?_ | refine AL.d (AOp.lit (t := 23) (e := 25) (sz := 6) (by kernel_rfl) rfl rfl rfl (by repeat' first | exact P_nil | refine P_cons rfl ?_) (by decide)) ?_) <;> refine AL.d (AOp.build (pl := [(0, 1), (1, 1), (2, 1), (3, 1), (4, 1), (5, 1)]) (z := .st [.int .i64 0, .int .i64 0, .str ⟨#[]⟩, .sl [], .sl [], .sl []]) (by kernel_rfl) rfl rfl rfl) ?_ <;> refine AL.d (AOp.call rfl rfl hN) ?_ <;> refine AL.es 3 ?_ <;> refine AL.alloc_store (by kernel_rfl) rfl rfl rfl rfl ?_ <;> refine AL.es 1 ?_ <;> refine AL.nil ?_) | refine AW.jt ?_ | refine AW.jf ?_ | refine AW.jj (fun hb => ?_) (fun hb => ?_) | refine AW.go ?_ | fail)
  repeat' (first | (refine AW.r 2 ?_ <;> refine AL.es 1 ?_ <;> refine AL.d (AOp.call rfl rfl hT) ?_ <;> refine AL.es 5 ?_ <;> refine AL.nil ?_) | (refine AW.r 3 ?_ <;> refine AL.es 3 ?_ <;> (first | refine AL.es 4 ?_ | (refine AL.gx (fun hb => ?_) (fun hb => ?_) <;> refine AL.es 4 ?_)) <;> (first | refine AL.es 4 ?_ | (refine AL.gx (fun hb => ?_) (fun hb => ?_) <;> refine AL.es 4 ?_)) <;> refine AL.nil ?_) | refine AW.jt ?_ | refine AW.jf ?_ | refine AW.jj (fun hb => ?_) (fun hb => ?_) | refine AW.go ?_ | fail)
  exact AW.retv rfl ⟨retB (by rw [toList_beq]; exact (decide_eq_true rfl).symm), rfl⟩
end Go.Proofs.YtlpndgodkkndnaaDoor
