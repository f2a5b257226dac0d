/- Contracts of the functions, part 6. -/
import Derived.Test.YtlpndgodkkndnaaGreatDoorA5
import Derived.Test.YtlpndgodkkndnaaGreatDoorA5
import Derived.Test.YtlpndgodkkndnaaGreatDoorS2
import Derived.Test.YtlpndgodkkndnaaGreatDoorA4
import Derived.Test.YtlpndgodkkndnaaGreatDoorA3
import Derived.Test.YtlpndgodkkndnaaGreatDoorProg
import Derived.Test.YtlpndgodkkndnaaGreatDoorA2
import Derived.Lib.LaidTab
namespace Go.Proofs.YtlpndgodkkndnaaGreatDoor
open Go.RowKit Go.SX
set_option maxRecDepth 100000
set_option maxHeartbeats 4000000
set_option linter.unusedVariables false
set_option linter.unusedSimpArgs false
theorem Tri.nil_sl {P : Program} {f : FuncId} {x : AV} {Φ : AEnd → AH → Prop} (h : Tri P f [x, .sl []] [] Φ) : Tri P f [x, .val (.slice none 0 0)] [] Φ :=
 ⟨h.1, fun Fr w vs hst hrel => by
  simp only [RelVs] at hrel
  obtain ⟨u1, us, rfl, h1, h1', u2, us2, rfl, h2, h2', rfl⟩ := hrel
  have hu2 : u2 = .slice none 0 0 := (show Rel (Sof Fr []) w (.val (.slice none 0 0)) u2 from ⟨h2, h2'⟩).val
  subst hu2
  have hn : Rel (Sof Fr []) w (.sl []) (.slice none 0 0) := Rel.as_sl rel_nil
  refine h.2 Fr w [u1, .slice none 0 0] hst ?_
  simp only [RelVs]
  exact ⟨_, _, rfl, h1, h1', _, _, rfl, hn.1, hn.2, rfl⟩⟩
def addN : List ByteArray → List ByteArray → List ByteArray
 | out, [] => out
 | out, x :: l => addN (bif has out x then out else out ++ [x]) l
theorem law_free (f : GFml) (hok : f.Ok) (hsh : shsF f = true) (hnd : ndF f ≤ 20000) (more : List ByteArray) (hm : more.length ≤ 1000) : Tri Tryz.prog 23 [f.st, strs more] [] (D (strs (addN (frF f) more)) []) := by
 have hfl : (frF f).length ≤ 1000000 := by have h1 := frF_len f; have h2 := agF_len f hsh; omega
 have hF := ref_Free _ f (Nat.le_refl _) hok (by have := agF_len f hsh; omega)
 generalize frF f = FF at *
 have hz : ∀ y ∈ FF.map AV.str, y.size = 1 := all_map fun _ => rfl
 refine Tri.enter 32 Tryz.func23 rfl rfl rfl rfl fun Fr w0 => ?_
 repeat' (first | (refine AW.r 0 ?_; refine AL.d (AOp.box_ro rfl rfl) ?_; refine xN 1 ?_) | refine AW.go ?_ | fail)
 repeat' (first | (refine AW.r 1 ?_; refine AL.lit_own (e := 9) (sz := 1) (by kernel_rfl) rfl rfl rfl P_nil (by decide) rfl fun b0 => ?_; refine AL.es 1 ?_; refine AL.d (AOp.call rfl rfl (hF.pure _)) ?_; refine AL.append (i := 0) (xs := []) (ys := FF.map AV.str) (e := 9) (sz := 1) (bytes := 16) rfl rfl rfl rfl (by kernel_rfl) (by kernel_rfl) P_nil hz (ok_map fun _ => rfl) (by simp only [List.length_nil, lM]; omega) (by simp only [List.length_nil, lM]; omega) rfl fun b1 c1 => ?_ <;> refine AL.es 1 ?_ <;> refine AL.nil ?_) | refine AW.go ?_ | fail)
 repeat' (first | refine AW.re 2 1 ?_ | refine AW.go ?_ | fail)
 refine AW.prune [1, 5, 6] (AW.loop (fun mz af h => ∃ (i : Nat) (out : List ByteArray) (tb : Option Nat) (tc : Nat), i ≤ more.length ∧ mz = more.length - i ∧ af = [(1, strs more), (5, .slt (out.map AV.str) tb tc), (6, .int .i64 i)] ∧ h = [.tail tb (out.map AV.str).length tc 1] ∧ (addN FF more = addN out (more.drop i) ∧ out.length ≤ FF.length + i)) more.length ⟨0, FF, b1, c1, Nat.zero_le _, rfl, rfl, rfl, ⟨rfl, Nat.le_refl _⟩⟩ ?_)
 rintro mz af h ⟨i, out, tb, tc, hi, rfl, rfl, rfl, he⟩
 refine AW.seq ?_
 by_cases hlt : i < more.length
 all_goals obtain ⟨he, hol⟩ := he
 ·obtain ⟨x, hx⟩ := get_lt hlt
  have hx' : (more.map AV.str)[((i : Nat) : Int).toNat]? = some (.str x) := map_get hx
  have hA : Tri Tryz.prog 17 [.sl (out.map AV.str), .str x] [] (D (.bool (has out x)) []) := Among_has out (by omega) x
  rw [drop_cons hx, addN] at he
  cases hb : has out x with
  | true =>
   rw [hb] at hA he
   repeat' (first | refine AW.re 3 4 ?_ | (refine xS 5 3 ?_; refine AL.d (iX hx') ?_; refine AL.d AOp.la ?_; refine AL.d (AOp.call_slt rfl rfl rfl (hA.pure _)) ?_; refine xN 1 ?_) | (refine xS 4 1 ?_; refine AL.d AOp.ad ?_; refine xN 1 ?_) | refine AW.jf ?_ | refine AW.jj (fun hb => ?_) (fun hb => ?_) | refine AW.go ?_ | fail)
   all_goals try (exfalso; simp only [dT, dF, lM] at *; omega)
   exact AW.again_keep (more.length - (i + 1)) [1, 5, 6] (by omega) ⟨i + 1, out, tb, tc, hlt, rfl, rfl, rfl, he, by omega⟩
  | false =>
   rw [hb] at hA he
   have hmm : (out ++ [x]).map AV.str = out.map AV.str ++ [.str x] := by simp
   repeat' (first | refine AW.re 3 4 ?_ | (refine xS 5 3 ?_; refine AL.d (iX hx') ?_; refine AL.d AOp.la ?_; refine AL.d (AOp.call_slt rfl rfl rfl (hA.pure _)) ?_; refine xN 1 ?_) | refine AW.jt ?_ | refine AW.jj (fun hb => ?_) (fun hb => ?_) | refine AW.go ?_ | fail)
   all_goals try (exfalso; simp only [dT, dF, lM] at *; omega)
   repeat' (first | (refine xS 6 3 ?_; refine AL.d (iX hx') ?_; refine AL.d AOp.la ?_; refine AL.d (AOp.lit (e := 9) (sz := 1) (by kernel_rfl) rfl rfl rfl (P_one rfl) (by decide)) ?_; refine AL.append (i := 0) (e := 9) (sz := 1) (bytes := 16) rfl rfl rfl rfl (by kernel_rfl) (by kernel_rfl) (by repeat' (exact P_map fun _ => rfl)) (by repeat' (exact P_one rfl)) (ok_all (by repeat' (exact P_one rfl))) (by (try simp only [lA, lM, List.length_take, List.length_drop, List.length_cons, List.length_nil, List.length_replicate]); omega) (by (try simp only [lA, lM, List.length_take, List.length_drop, List.length_cons, List.length_nil, List.length_replicate]); omega) rfl fun b' c' => ?_ <;> refine AL.es 1 ?_ <;> refine AL.nil ?_) | (refine xS 4 1 ?_; refine AL.d AOp.ad ?_; refine xN 1 ?_) | fail)
   refine AW.again_keep (more.length - (i + 1)) [1, 5, 6] (by omega) ⟨i + 1, out ++ [x], b', c', hlt, rfl, by rw [hmm]; rfl, by rw [hmm]; rfl, he, by simp; omega⟩
 ·rw [List.drop_eq_nil_of_le (by omega), addN] at he
  repeat' (first | refine AW.re 3 4 ?_ | refine AW.jj (fun hb => ?_) (fun hb => ?_) | refine AW.go ?_ | fail)
  all_goals try (exfalso; simp only [dT, dF, lM] at *; omega)
  refine AW.as_sl 5 rfl ?_
  refine AW.drop (List.nil_sublist _) ?_
  repeat' (first | refine AW.re 7 2 ?_ | fail)
  exact AW.retv rfl ⟨by rw [he]; rfl, rfl⟩
theorem law_free0 (f : GFml) (hok : f.Ok) (hsh : shsF f = true) (hnd : ndF f ≤ 20000) : Tri Tryz.prog 23 [f.st, .val (.slice none 0 0)] [] (D (strs (frF f)) []) :=
 Tri.nil_sl (law_free f hok hsh hnd [] (by simp))
theorem ref_Vars (f : GFml) (hok : f.Ok) (hsh : shsF f = true) (hnd : ndF f ≤ 20000) (vars : List ByteArray) (hv : vars.length ≤ 1000000) : Tri Tryz.prog 111 [f.st, strs vars] [] (D (.int .i64 (if namesG false true [] vars = true ∧ ((frF f).all fun v => has vars v) = true then 0 else 2)) []) := by
 have hfl : (frF f).length ≤ 1000000 := by have h1 := frF_len f; have h2 := agF_len f hsh; omega
 have hF := ref_Free _ f (Nat.le_refl _) hok (by have := agF_len f hsh; omega)
 generalize frF f = FF at *
 have hD := ref_Different vars (by omega)
 have hA := fun v => Among_has vars (by omega) v
 generalize namesG false true [] vars = df at *
 cases df with
 | false =>
  refine Tri.enter 25 Tryz.func111 rfl rfl rfl rfl fun Fr w0 => ?_
  repeat' (first | (refine AW.r 0 ?_; refine AL.d (AOp.box_ro rfl rfl) ?_; refine xN 1 ?_) | (refine xS 1 1 ?_; refine AL.d (AOp.call rfl rfl hF) ?_; refine xN 1 ?_) | (refine xS 2 1 ?_; refine AL.d (AOp.call rfl rfl hD) ?_; refine xN 1 ?_) | refine AW.re 3 1 ?_ | refine AW.jt ?_ | fail)
  all_goals try (exfalso; simp only [dT, dF, lM] at *; omega)
  exact AW.retv rfl ⟨rfl, rfl⟩
 | true =>
  refine Tri.enter 25 Tryz.func111 rfl rfl rfl rfl fun Fr w0 => ?_
  repeat' (first | (refine AW.r 0 ?_; refine AL.d (AOp.box_ro rfl rfl) ?_; refine xN 1 ?_) | (refine xS 1 1 ?_; refine AL.d (AOp.call rfl rfl hF) ?_; refine xN 1 ?_) | (refine xS 2 1 ?_; refine AL.d (AOp.call rfl rfl hD) ?_; refine xN 1 ?_) | refine AW.re 4 1 ?_ | refine AW.jf ?_ | refine AW.go ?_ | fail)
  all_goals try (exfalso; simp only [dT, dF, lM] at *; omega)
  refine AW.prune [1, 5, 6] (AW.loop (fun mz af h => ∃ (i : Nat), i ≤ FF.length ∧ mz = FF.length - i ∧ af = [(1, strs vars), (5, strs FF), (6, .int .i64 i)] ∧ h = [] ∧ (FF.all fun v => has vars v) = ((FF.drop i).all fun v => has vars v)) FF.length ⟨0, Nat.zero_le _, rfl, rfl, rfl, rfl⟩ ?_)
  rintro mz af h ⟨i, hi, rfl, rfl, rfl, he⟩
  refine AW.seq ?_
  by_cases hlt : i < FF.length
  ·obtain ⟨x, hx⟩ := get_lt hlt
   have hx' : (FF.map AV.str)[((i : Nat) : Int).toNat]? = some (.str x) := map_get hx
   have hAx := hA x
   rw [drop_cons hx, List.all_cons] at he
   generalize has vars x = b at *
   cases b with
   | false =>
    repeat' (first | refine AW.re 5 4 ?_ | (refine xS 7 3 ?_; refine AL.d (iX hx') ?_; refine AL.es 1 ?_; refine AL.d (AOp.call rfl rfl hAx) ?_; refine xN 1 ?_) | refine AW.re 8 1 ?_ | refine AW.jt ?_ | refine AW.jj (fun hb => ?_) (fun hb => ?_) | refine AW.go ?_ | fail)
    all_goals try (exfalso; simp only [dT, dF, lM] at *; omega)
    refine AW.retv rfl ⟨?_, rfl⟩
    rw [he, if_neg (by simp)]; rfl
   | true =>
    repeat' (first | refine AW.re 5 4 ?_ | (refine xS 7 3 ?_; refine AL.d (iX hx') ?_; refine AL.es 1 ?_; refine AL.d (AOp.call rfl rfl hAx) ?_; refine xN 1 ?_) | (refine xS 6 1 ?_; refine AL.d AOp.ad ?_; refine xN 1 ?_) | refine AW.jf ?_ | refine AW.jj (fun hb => ?_) (fun hb => ?_) | refine AW.go ?_ | fail)
    all_goals try (exfalso; simp only [dT, dF, lM] at *; omega)
    refine AW.again_keep (FF.length - (i + 1)) [1, 5, 6] (by omega) ⟨i + 1, hlt, rfl, rfl, rfl, ?_⟩
    rw [he]; rfl
  ·rw [List.drop_eq_nil_of_le (by omega)] at he
   repeat' (first | refine AW.re 5 4 ?_ | refine AW.re 9 1 ?_ | refine AW.jj (fun hb => ?_) (fun hb => ?_) | refine AW.go ?_ | fail)
   all_goals try (exfalso; simp only [dT, dF, lM] at *; omega)
   refine AW.retv rfl ⟨?_, rfl⟩
   rw [he, if_pos ⟨rfl, rfl⟩]; rfl
def chkI (f : GFml) (s : GStr) (vars : List ByteArray) : Int := if fitsB s (symL (ocF f [] [])) = false then 4 else if namesG false true [] vars = true ∧ ((frF f).all fun v => has vars v) = true then 0 else 2
theorem ref_Check (f : GFml) (s : GStr) (hok : f.Ok) (hs : s.Ok) (hv : validF f = true) (hsv : validStr s = true) (hnd : ndF f ≤ 20000) (vars : List ByteArray) (hvl : vars.length ≤ 1000000) : Tri Tryz.prog 64 [f.st, s.av, strs vars] [] (D (.int .i64 (chkI f s vars)) []) := by
 have hsh : shsF f = true := by unfold validF at hv; simp only [bA] at hv; exact hv.1.1.1.2
 have hV := ref_Valid f hok (by omega)
 have hVS := ref_ValidS s hs
 have hS := ref_Symbols f hok (by omega)
 have hsl : (symL (ocF f [] [])).length ≤ 40000 := by have h1 := symL_len (ocF f [] []); have h2 := ocF_len f [] []; simp at h2; omega
 have hFi := ref_Fits s hs (symL (ocF f [] [])) (by omega)
 have hVa := ref_Vars f hok hsh hnd vars hvl
 rw [hv] at hV
 rw [hsv] at hVS
 unfold chkI
 generalize (if namesG false true [] vars = true ∧ ((frF f).all fun v => has vars v) = true then (0 : Int) else 2) = va at *
 generalize symL (ocF f [] []) = SS at *
 generalize fitsB s SS = fb at *
 cases fb with
 | false =>
  refine Tri.enter 23 Tryz.func64 rfl rfl rfl rfl fun Fr w0 => ?_
  repeat' (first | (refine AW.r 0 ?_; refine AL.d (AOp.box_ro rfl rfl) ?_; refine AL.d (AOp.box_ro rfl rfl) ?_; refine xN 1 ?_) | (refine xS 1 1 ?_; refine AL.d (AOp.call rfl rfl hV) ?_; refine AL.es 2 ?_; refine AL.es 1 ?_; ((refine AL.gd ?_; (refine AL.d (AOp.call rfl rfl hVS) ?_))) <;> refine AL.es 2 ?_ <;> refine AL.nil ?_) | (refine AW.dq 3 ?_; refine AQ.es 2 ?_; refine AQ.p rfl (AOp.call rfl rfl hS) ?_; refine AQ.p rfl (AOp.call rfl rfl hFi) ?_; refine AQ.es 1 ?_; refine AQ.nil ?_) | refine AW.re 4 1 ?_ | refine AW.jt ?_ | refine AW.jf ?_ | fail)
  all_goals try (exfalso; simp only [dT, dF, lM] at *; omega)
  exact AW.retv rfl ⟨rfl, rfl⟩
 | true =>
  refine Tri.enter 23 Tryz.func64 rfl rfl rfl rfl fun Fr w0 => ?_
  repeat' (first | (refine AW.r 0 ?_; refine AL.d (AOp.box_ro rfl rfl) ?_; refine AL.d (AOp.box_ro rfl rfl) ?_; refine xN 1 ?_) | (refine xS 1 1 ?_; refine AL.d (AOp.call rfl rfl hV) ?_; refine AL.es 2 ?_; refine AL.es 1 ?_; ((refine AL.gd ?_; (refine AL.d (AOp.call rfl rfl hVS) ?_))) <;> refine AL.es 2 ?_ <;> refine AL.nil ?_) | (refine AW.dq 3 ?_; refine AQ.es 2 ?_; refine AQ.p rfl (AOp.call rfl rfl hS) ?_; refine AQ.p rfl (AOp.call rfl rfl hFi) ?_; refine AQ.es 1 ?_; refine AQ.nil ?_) | (refine xS 5 2 ?_; refine AL.d (AOp.call rfl rfl hVa) ?_; refine xN 1 ?_) | refine AW.jf ?_ | fail)
  all_goals try (exfalso; simp only [dT, dF, lM] at *; omega)
  exact AW.retv rfl ⟨rfl, rfl⟩
theorem rels_first {n : Int} {all : List GRel} : ∀ (l : List GRel) (i : Nat), relsGo n all i l = true → ∀ (j : Nat) r, l[j]? = some r → ∀ q ∈ all.take (i + j), q.Name ≠ r.Name
 | [], _, _, j, r, hj => by simp at hj
 | x :: l, i, h, j, r, hj => by
  rw [relsGo, bA, bA] at h
  intro q hq
  cases j with
  | zero =>
   obtain rfl : x = r := by simpa using hj
   have h2 := h.1.2
   rw [Bool.not_eq_true', List.any_eq_false] at h2
   simpa using h2 q hq
  | succ j => exact rels_first l (i + 1) h.2 j r (by simpa using hj) q (by rw [show i + 1 + j = i + (j + 1) by omega]; exact hq)
theorem find_uniq {s : GStr} (hv : validStr s = true) {r : GRel} (h : r ∈ s.Rels) : s.Rels.find? (fun q => decide (q.Name = r.Name)) = some r := by
 have hg : relsGo s.Size s.Rels 0 s.Rels = true := by unfold validStr at hv; simp only [bA] at hv; exact hv.2
 obtain ⟨j, hj⟩ := List.getElem?_of_mem h
 cases hf : s.Rels.find? (fun q => decide (q.Name = r.Name)) with
 | none => rw [List.find?_eq_none] at hf; exact absurd (by simp) (hf r h)
 | some q =>
  have hq : q.Name = r.Name := by simpa using List.find?_some hf
  obtain ⟨k, hk⟩ := List.getElem?_of_mem (List.mem_of_find?_eq_some hf)
  rcases Nat.lt_trichotomy k j with hlt | rfl | hlt
  ·exact absurd hq (rels_first _ 0 hg j r hj q (List.mem_iff_getElem?.2 ⟨k, by rw [List.getElem?_take, if_pos (by omega)]; exact hk⟩))
  ·rw [hk] at hj; exact hj
  ·exact absurd hq.symm (rels_first _ 0 hg k q hk r (List.mem_iff_getElem?.2 ⟨j, by rw [List.getElem?_take, if_pos (by omega)]; exact hj⟩))
theorem lkT_mem {α : Type} {s : ByteArray} {b : α} : ∀ {T : List (ByteArray × α)}, lkT T s = some b → (s, b) ∈ T
 | [], h => by cases h
 | p :: T, h => by
  rw [lkT] at h
  cases hr : lkT T s with
  | some x => rw [hr] at h; obtain rfl := Option.some.inj h; exact List.mem_cons_of_mem _ (lkT_mem hr)
  | none =>
   rw [hr] at h
   simp only at h
   split at h
   ·rename_i e; obtain rfl := Option.some.inj h; rw [← e]; exact List.mem_cons_self ..
   ·cases h
theorem pairG_in : ∀ (l pre : List GSym), pairG pre l = true → ∀ (i : Nat) x, l[i]? = some x → ∀ y ∈ pre ++ l.take i, y.Name = x.Name → y.Arity = x.Arity
 | [], pre, _, i, x, hi, y, hy, e => by simp at hi
 | z :: l, pre, h, i, x, hi, y, hy, e => by
  rw [pairG, bA] at h
  cases i with
  | zero =>
   obtain rfl : z = x := by simpa using hi
   have := List.all_eq_true.1 h.1 y (by simpa using hy)
   unfold clashB at this
   simpa [e] using this
  | succ i =>
   refine pairG_in l (pre ++ [z]) h.2 i x (by simpa using hi) y ?_ e
   simpa [List.append_assoc] using hy
theorem pairG_eq {l : List GSym} (h : pairG [] l = true) {x y : GSym} (hx : x ∈ l) (hy : y ∈ l) (e : x.Name = y.Name) : x.Arity = y.Arity := by
 obtain ⟨i, hi⟩ := List.getElem?_of_mem hx
 obtain ⟨j, hj⟩ := List.getElem?_of_mem hy
 rcases Nat.lt_trichotomy i j with hlt | rfl | hlt
 ·exact pairG_in l [] h j y hj x (by rw [List.nil_append]; exact List.mem_iff_getElem?.2 ⟨i, by rw [List.getElem?_take, if_pos hlt]; exact hi⟩) e
 ·rw [hi] at hj; rw [Option.some.inj hj]
 ·exact (pairG_in l [] h i x hi y (by rw [List.nil_append]; exact List.mem_iff_getElem?.2 ⟨j, by rw [List.getElem?_take, if_pos hlt]; exact hj⟩) e.symm).symm
theorem okF_str {N : Nat} {f : GFml} {s : GStr} (hv : validF f = true) (hs : SOk N s) (hsv : validStr s = true) (hf : fitsB s (symL (ocF f [] [])) = true) (hsm : smF N f = true) : okF N f (tl (strT N s)) := by
 unfold validF at hv
 simp only [bA] at hv
 suffices key : ∀ y ∈ ocF f [] [], ∀ c, lkT (tl (strT N s)) y.Name = some c → c = N ^ y.Arity.toNat ∧ c ≤ 4096 by
  have hL : LB_ N (tl (strT N s)) [] (fun y => ∀ c, lkT (tl (strT N s)) y.Name = some c → c = N ^ y.Arity.toNat ∧ c ≤ 4096) := by
   refine ⟨fun nm m h => (by cases h), fun nm _ y hy e c hc => ?_⟩
   exact hy c (by rw [e]; exact hc)
  exact okF_of N f [] (tl (strT N s)) _ hv.1.1.1.2 hv.1.1.2 hsm hL key
 intro y hy c hc
 have hm := lkT_mem hc
 unfold tl strT at hm
 rw [List.map_map, List.mem_map] at hm
 obtain ⟨r, hr, e⟩ := hm
 obtain ⟨e1, e2⟩ := Prod.mk.inj e
 have e1 : r.Name = y.Name := e1
 obtain ⟨z, hz, ez⟩ := symL_name hy
 have hfa := List.all_eq_true.1 hf z hz
 unfold fitA at hfa
 rw [ez, ← e1, find_uniq hsv hr] at hfa
 have ha : r.Arity = y.Arity := (of_decide_eq_true hfa).trans (pairG_eq hv.2 (symL_sub hz) hy ez)
 obtain ⟨k, hk, _, hk4, _⟩ := hs.rel r hr
 have hlen : (tabN N r.Tuples (falses (N ^ r.Arity.toNat))).length = N ^ r.Arity.toNat := by rw [tabN_len, falses_len]
 have e2 : (tabN N r.Tuples (falses (N ^ r.Arity.toNat))).length = c := e2
 rw [hlen] at e2
 rw [← e2, ← ha]
 exact ⟨rfl, by rw [hk, Int.toNat_natCast]; exact hk4⟩
theorem law_evaluated (M : Nat) (hM : 5001 < M) (f : GFml) (s : GStr) (vars : List ByteArray) (hok : f.Ok) (hs : s.Ok) (hv : validF f = true) (hnd : ndF f ≤ 1500) (hvl : vars.length ≤ 24) :
  Tri Tryz.prog 24 [f.st, s.av, strs vars] [] (fun x h => ∃ v b, x = .ret (.tup [v, .bool b]) ∧ h = [] ∧ (b = true → ∃ N, SOk N s ∧ N ^ vars.length ≤ 4096 ∧ v = .sl ((qryL N M f (strT N s) vars (N ^ vars.length)).map ints))) := by
 have hVS := ref_ValidS s hs
 have hvv := hv
 unfold validF at hvv
 simp only [bA] at hvv
 have hsh : shsF f = true := hvv.1.1.1.2
 have hg : grF f = true := hvv.1.2
 cases hsv : validStr s with
 | false =>
  rw [hsv] at hVS
  refine Tri.enter 58 Tryz.func24 rfl rfl rfl rfl fun Fr w0 => ?_
  repeat' (first | (refine AW.r 0 ?_; refine AL.d (AOp.box_ro rfl rfl) ?_; refine AL.d (AOp.box_ro rfl rfl) ?_; refine xN 2 ?_) | (refine AW.dq 1 ?_; refine AQ.es 1 ?_; refine AQ.p rfl (AOp.call rfl rfl hVS) ?_; refine AQ.es 2 ?_; refine AQ.es 4 ?_; refine AQ.k ?_; refine AQ.es 3 ?_; refine AQ.es 3 ?_; refine AQ.k ?_; refine AQ.es 3 ?_; refine AQ.es 3 ?_; refine AQ.k ?_; refine AQ.es 3 ?_; refine AQ.es 3 ?_; refine AQ.k ?_; refine AQ.es 4 ?_; refine AQ.k ?_; refine AQ.k ?_; refine AQ.es 2 ?_; refine AQ.nil ?_) | refine AW.re 2 2 ?_ | refine AW.jt ?_ | fail)
  all_goals try (exfalso; simp only [dT, dF, lM] at *; omega)
  exact AW.retv rfl ⟨_, false, rfl, rfl, fun h => by cases h⟩
 | true =>
  rw [hsv] at hVS
  obtain ⟨N, hS⟩ := SOk_of hsv
  have hCk := ref_Check f s hok hs hv hsv (by omega) vars (by omega)
  have hSz := ref_Size N ⟨hS.n1, hS.n2⟩ f hok hsh (by omega)
  have hCo := ref_Cost N ⟨by have := hS.n1; omega, by have := hS.n2; omega⟩ _ f (Nat.le_refl _) hok hsh (by omega)
  have hcB := costF_B (N := N) ⟨by have := hS.n1; omega, by have := hS.n2; omega⟩ f
  have hP := ref_Pow N vars.length (by have := hS.n1; have := hS.n2; omega) (by omega)
  have hpv := ppow_val hS.n1 vars.length 1 (Nat.le_refl _)
  rw [Nat.one_mul] at hpv
  have hQ := fun h1 h2 => ref_Query N M f s vars hM hs hS hok hsh hg hnd hvl h1 h2
  have hOk := okF_str (N := N) hv hS hsv
  have hsa : s.av = .st [.int .i64 N, .sl (s.Rels.map GRel.av)] := by unfold GStr.av; rw [hS.size]
  rw [hsa] at hVS hCk hQ ⊢
  have hvlen : ((vars.map AV.str).length : Int) = vars.length := by simp
  rw [← hvlen] at hP
  rw [hvlen, Int.toNat_natCast] at hP
  rw [← hvlen] at hP
  have hfit : chkI f s vars = 0 → fitsB s (symL (ocF f [] [])) = true := fun h => by
   unfold chkI at h
   cases hf : fitsB s (symL (ocF f [] [])) with
   | true => rfl
   | false => rw [if_pos hf] at h; cases h
  obtain ⟨c0, c1⟩ := hcB
  by_cases hp : ppow N vars.length 1 ≤ 4096
  ·have hp4 := hpv.2.1 hp
   have hp1 := hpv.2.2
   have hp1 : 1 ≤ ppow N vars.length 1 := hp1
   clear hpv
   generalize hL : ppow N vars.length 1 = p at *
   by_cases hc : chkI f s vars = 0
   ·have hOk := hOk (hfit hc)
    rw [hc] at hCk
    by_cases hz : smF N f = true ∧ costF N f < 1099511627776
    ·rw [if_pos hz] at hSz
     have hQ := hQ hp4 (hOk hz.1)
     generalize costF N f = cst at *
     have hm1 := Int.mul_le_mul c1 hp (by omega) (by omega)
     have hm0 := Int.mul_nonneg c0 (show 0 ≤ p by omega)
     by_cases hm : cst * p > 400000
     ·refine Tri.enter 58 Tryz.func24 rfl rfl rfl rfl fun Fr w0 => ?_
      repeat' (first | (refine AW.r 0 ?_; refine AL.d (AOp.box_ro rfl rfl) ?_; refine AL.d (AOp.box_ro rfl rfl) ?_; refine xN 2 ?_) | (refine AW.dq 1 ?_; refine AQ.es 1 ?_; refine AQ.p rfl (AOp.call rfl rfl hVS) ?_; refine AQ.es 2 ?_; refine AQ.es 4 ?_; refine AQ.gp rfl (AOp.call rfl rfl hP) ?_; refine AQ.es 3 ?_; ((refine AQ.x (fun hb => ?_) (fun hb => ?_) <;> refine AQ.es 3 ?_)) <;> (first | refine AQ.gp rfl (AOp.call rfl rfl hCk) ?_ | refine AQ.k ?_) <;> refine AQ.es 3 ?_ <;> (refine AQ.es 3 ?_) <;> (first | refine AQ.gp rfl (AOp.call rfl rfl hSz) ?_ | refine AQ.k ?_) <;> refine AQ.es 3 ?_ <;> (refine AQ.es 3 ?_) <;> (first | refine AQ.gp rfl (AOp.call rfl rfl hCo) ?_ | refine AQ.k ?_) <;> refine AQ.es 4 ?_ <;> (first | refine AQ.gp rfl (AOp.call rfl rfl hP) ?_ | refine AQ.k ?_) <;> (first | refine AQ.gp rfl (AOp.mul rfl rfl (by omega)) ?_ | refine AQ.k ?_) <;> refine AQ.es 2 ?_ <;> refine AQ.nil ?_) | refine AW.re 2 2 ?_ | refine AW.jt ?_ | refine AW.jj (fun hb => ?_) (fun hb => ?_) | refine AW.go ?_ | fail)
      all_goals try (exfalso; simp only [dT, dF] at *; omega)
      exact AW.retv rfl ⟨_, false, rfl, rfl, fun h => by cases h⟩
     ·refine Tri.enter 58 Tryz.func24 rfl rfl rfl rfl fun Fr w0 => ?_
      repeat' (first | (refine AW.r 0 ?_; refine AL.d (AOp.box_ro rfl rfl) ?_; refine AL.d (AOp.box_ro rfl rfl) ?_; refine xN 2 ?_) | (refine AW.dq 1 ?_; refine AQ.es 1 ?_; refine AQ.p rfl (AOp.call rfl rfl hVS) ?_; refine AQ.es 2 ?_; refine AQ.es 4 ?_; refine AQ.gp rfl (AOp.call rfl rfl hP) ?_; refine AQ.es 3 ?_; ((refine AQ.x (fun hb => ?_) (fun hb => ?_) <;> refine AQ.es 3 ?_)) <;> (first | refine AQ.gp rfl (AOp.call rfl rfl hCk) ?_ | refine AQ.k ?_) <;> refine AQ.es 3 ?_ <;> (refine AQ.es 3 ?_) <;> (first | refine AQ.gp rfl (AOp.call rfl rfl hSz) ?_ | refine AQ.k ?_) <;> refine AQ.es 3 ?_ <;> (refine AQ.es 3 ?_) <;> (first | refine AQ.gp rfl (AOp.call rfl rfl hCo) ?_ | refine AQ.k ?_) <;> refine AQ.es 4 ?_ <;> (first | refine AQ.gp rfl (AOp.call rfl rfl hP) ?_ | refine AQ.k ?_) <;> (first | refine AQ.gp rfl (AOp.mul rfl rfl (by omega)) ?_ | refine AQ.k ?_) <;> refine AQ.es 2 ?_ <;> refine AQ.nil ?_) | refine AW.re 2 2 ?_ | refine AW.jt ?_ | refine AW.jj (fun hb => ?_) (fun hb => ?_) | refine AW.go ?_ | fail)
      all_goals try (exfalso; simp only [dT, dF] at *; omega)
      repeat' (first | (refine xS 3 3 ?_; refine AL.callQ rfl rfl hQ rfl ?_ ?_; rotate_left; rintro _ _ ⟨_, e, _⟩; cases e; rintro _ _ ⟨lg, e, rfl⟩; injection e with e; subst e <;> refine AL.es 5 ?_ <;> refine AL.nil ?_) | refine AW.re 4 5 ?_ | fail)
      exact AW.retv rfl ⟨_, !lg, rfl, rfl, fun _ => ⟨N, hS, hp4, rfl⟩⟩
    ·rw [if_neg hz] at hSz
     refine Tri.enter 58 Tryz.func24 rfl rfl rfl rfl fun Fr w0 => ?_
     repeat' (first | (refine AW.r 0 ?_; refine AL.d (AOp.box_ro rfl rfl) ?_; refine AL.d (AOp.box_ro rfl rfl) ?_; refine xN 2 ?_) | (refine AW.dq 1 ?_; refine AQ.es 1 ?_; refine AQ.p rfl (AOp.call rfl rfl hVS) ?_; refine AQ.es 2 ?_; refine AQ.es 4 ?_; refine AQ.gp rfl (AOp.call rfl rfl hP) ?_; refine AQ.es 3 ?_; ((refine AQ.x (fun hb => ?_) (fun hb => ?_) <;> refine AQ.es 3 ?_)) <;> (first | refine AQ.gp rfl (AOp.call rfl rfl hCk) ?_ | refine AQ.k ?_) <;> refine AQ.es 3 ?_ <;> (refine AQ.es 3 ?_) <;> (first | refine AQ.gp rfl (AOp.call rfl rfl hSz) ?_ | refine AQ.k ?_) <;> refine AQ.es 3 ?_ <;> (refine AQ.es 3 ?_) <;> (refine AQ.k ?_) <;> refine AQ.es 4 ?_ <;> (refine AQ.k ?_) <;> (refine AQ.k ?_) <;> refine AQ.es 2 ?_ <;> refine AQ.nil ?_) | refine AW.re 2 2 ?_ | refine AW.jt ?_ | fail)
     all_goals try (exfalso; simp only [dT, dF] at *; omega)
     exact AW.retv rfl ⟨_, false, rfl, rfl, fun h => by cases h⟩
   ·generalize chkI f s vars = ck at *
    refine Tri.enter 58 Tryz.func24 rfl rfl rfl rfl fun Fr w0 => ?_
    repeat' (first | (refine AW.r 0 ?_; refine AL.d (AOp.box_ro rfl rfl) ?_; refine AL.d (AOp.box_ro rfl rfl) ?_; refine xN 2 ?_) | (refine AW.dq 1 ?_; refine AQ.es 1 ?_; refine AQ.p rfl (AOp.call rfl rfl hVS) ?_; refine AQ.es 2 ?_; refine AQ.es 4 ?_; refine AQ.gp rfl (AOp.call rfl rfl hP) ?_; refine AQ.es 3 ?_; ((refine AQ.x (fun hb => ?_) (fun hb => ?_) <;> refine AQ.es 3 ?_)) <;> (first | (exfalso; simp only [dT, dF, lM, bne_iff_ne, ne_eq, bne_eq_false_iff_eq, beq_iff_eq, beq_eq_false_iff_ne] at *; omega) | refine AQ.gp rfl (AOp.call rfl rfl hCk) ?_) <;> refine AQ.es 3 ?_ <;> ((refine AQ.x (fun hb => ?_) (fun hb => ?_) <;> refine AQ.es 3 ?_)) <;> (first | (exfalso; simp only [dT, dF, lM, bne_iff_ne, ne_eq, bne_eq_false_iff_eq, beq_iff_eq, beq_eq_false_iff_ne] at *; omega) | refine AQ.k ?_) <;> refine AQ.es 3 ?_ <;> (refine AQ.es 3 ?_) <;> (refine AQ.k ?_) <;> refine AQ.es 4 ?_ <;> (refine AQ.k ?_) <;> (refine AQ.k ?_) <;> refine AQ.es 2 ?_ <;> refine AQ.nil ?_) | refine AW.re 2 2 ?_ | refine AW.jt ?_ | fail)
    all_goals try (exfalso; simp only [dT, dF, bne_iff_ne, ne_eq, bne_eq_false_iff_eq] at *; omega)
    exact AW.retv rfl ⟨_, false, rfl, rfl, fun h => by cases h⟩
  ·refine Tri.enter 58 Tryz.func24 rfl rfl rfl rfl fun Fr w0 => ?_
   repeat' (first | (refine AW.r 0 ?_; refine AL.d (AOp.box_ro rfl rfl) ?_; refine AL.d (AOp.box_ro rfl rfl) ?_; refine xN 2 ?_) | (refine AW.dq 1 ?_; refine AQ.es 1 ?_; refine AQ.p rfl (AOp.call rfl rfl hVS) ?_; refine AQ.es 2 ?_; refine AQ.es 4 ?_; refine AQ.gp rfl (AOp.call rfl rfl hP) ?_; refine AQ.es 3 ?_; ((refine AQ.x (fun hb => ?_) (fun hb => ?_) <;> refine AQ.es 3 ?_)) <;> (first | (exfalso; simp only [dT, dF, lM, bne_iff_ne, ne_eq, bne_eq_false_iff_eq, beq_iff_eq, beq_eq_false_iff_ne] at *; omega) | refine AQ.k ?_) <;> refine AQ.es 3 ?_ <;> (refine AQ.es 3 ?_) <;> (refine AQ.k ?_) <;> refine AQ.es 3 ?_ <;> (refine AQ.es 3 ?_) <;> (refine AQ.k ?_) <;> refine AQ.es 4 ?_ <;> (refine AQ.k ?_) <;> (refine AQ.k ?_) <;> refine AQ.es 2 ?_ <;> refine AQ.nil ?_) | refine AW.re 2 2 ?_ | refine AW.jt ?_ | fail)
   all_goals try (exfalso; simp only [dT, dF] at *; omega)
   exact AW.retv rfl ⟨_, false, rfl, rfl, fun h => by cases h⟩
theorem law_less (f g : GFml) (hf : f.Ok) (hg : g.Ok) (hv : validF f = true) (hw : validF g = true) (n1 : ndF f ≤ 1500) (n2 : ndF g ≤ 1500) (hfr : ∀ x ∈ frF g, x ∈ frF f) (hoc : ocF g [] [] = ocF f [] []) : Tri Tryz.prog 55 [f.st, g.st] [] (D (.bool true) []) := by
 have hV := ref_Valid g hg (by omega)
 rw [hw] at hV
 have hs1 := validF_shs hv
 have hs2 := validF_shs hw
 have a1 := frF_len f
 have a2 := agF_len f hs1
 have a3 := frF_len g
 have a4 := agF_len g hs2
 have hF := ref_Free _ f (Nat.le_refl _) hf (by omega)
 have hG := ref_Free _ g (Nat.le_refl _) hg (by omega)
 have hS := ref_Symbols f hf (by omega)
 have hT := ref_Symbols g hg (by omega)
 rw [hoc] at hT
 have hsl : (symL (ocF f [] [])).length ≤ 40000 := by have h1 := symL_len (ocF f [] []); have h2 := ocF_len f [] []; simp at h2; omega
 have hfe := law_fewer (symL (ocF f [] [])) (by omega)
 have hA := fun v => Among_has (frF f) (by omega) v
 have b1 : (frF f).length ≤ 1000000 := by omega
 have b2 : (frF g).length ≤ 1000000 := by omega
 clear a1 a2 a3 a4
 generalize symL (ocF f [] []) = SS at *
 generalize frF f = FF at *
 generalize frF g = GG at *
 refine Tri.enter 33 Tryz.func55 rfl rfl rfl rfl fun Fr w0 => ?_
 repeat' (first | (refine AW.r 0 ?_; refine AL.d (AOp.box_ro rfl rfl) ?_; refine AL.d (AOp.box_ro rfl rfl) ?_; refine xN 1 ?_) | (refine xS 1 1 ?_; refine AL.d (AOp.call rfl rfl hV) ?_; refine xN 1 ?_) | (refine AW.dq 3 ?_; refine AQ.es 1 ?_; refine AQ.p rfl (AOp.call rfl rfl hF) ?_; refine AQ.es 1 ?_; refine AQ.p rfl (AOp.call rfl rfl hG) ?_; refine AQ.es 2 ?_; refine AQ.nil ?_) | refine AW.jf ?_ | refine AW.go ?_ | fail)
 all_goals try (exfalso; simp only [dT, dF, lM] at *; omega)
 repeat' (first | refine AW.re 4 1 ?_ | refine AW.go ?_ | fail)
 refine AW.prune [2, 3, 5, 6, 7] (AW.loop (fun mz af h => ∃ (i : Nat), i ≤ GG.length ∧ mz = GG.length - i ∧ af = [(2, .at f.st), (3, .at g.st), (5, strs FF), (6, strs GG), (7, .int .i64 i)] ∧ h = [] ∧ True) GG.length ⟨0, Nat.zero_le _, rfl, rfl, rfl, trivial⟩ ?_)
 rintro mz af h ⟨i, hi, rfl, rfl, rfl, he⟩
 refine AW.seq ?_
 by_cases hlt : i < GG.length
 ·obtain ⟨x, hx⟩ := get_lt hlt
  have hx' : (GG.map AV.str)[((i : Nat) : Int).toNat]? = some (.str x) := map_get hx
  have hAx := hA x
  rw [has_mem.2 (hfr x (lG hx))] at hAx
  repeat' (first | refine AW.re 5 4 ?_ | (refine xS 7 3 ?_; refine AL.d (iX hx') ?_; refine AL.es 1 ?_; refine AL.d (AOp.call rfl rfl hAx) ?_; refine xN 1 ?_) | (refine xS 6 1 ?_; refine AL.d AOp.ad ?_; refine xN 1 ?_) | refine AW.jf ?_ | refine AW.jj (fun hb => ?_) (fun hb => ?_) | refine AW.go ?_ | fail)
  all_goals try (exfalso; simp only [dT, dF, lM] at *; omega)
  refine AW.again_keep (GG.length - (i + 1)) [2, 3, 5, 6, 7] (by omega) ⟨i + 1, hlt, rfl, rfl, rfl, ?_⟩
  trivial
 ·repeat' (first | refine AW.re 5 4 ?_ | (refine AW.dq 9 ?_; refine AQ.es 1 ?_; refine AQ.p rfl (AOp.call rfl rfl hT) ?_; refine AQ.es 1 ?_; refine AQ.p rfl (AOp.call rfl rfl hS) ?_; refine AQ.p rfl (AOp.call rfl rfl hfe) ?_; refine AQ.es 1 ?_; refine AQ.nil ?_) | refine AW.jj (fun hb => ?_) (fun hb => ?_) | refine AW.go ?_ | fail)
  all_goals try (exfalso; simp only [dT, dF, lM] at *; omega)
  exact AW.retv rfl ⟨rfl, rfl⟩
theorem qryL_len2 (N M : Nat) (f : GFml) (T : TT) (vars : List ByteArray) (m : Nat) : ∀ t ∈ qryL N M f T vars m, t.length = vars.length := by
 intro t ht
 unfold qryL at ht
 have := (List.mem_filter.1 ht).1
 unfold tupL at this
 obtain ⟨i, _, rfl⟩ := List.mem_map.1 this
 exact tup_len _ _ _
theorem qryL_eq {N M : Nat} {f g : GFml} {T : TT} {vars : List ByteArray} (h : ∀ t : List Int, sem N M g T (vars.zip t) = sem N M f T (vars.zip t)) (m : Nat) : qryL N M g T vars m = qryL N M f T vars m := by
 unfold qryL
 rw [show (fun t => sem N M g T (vars.zip t)) = fun t => sem N M f T (vars.zip t) from funext h]
theorem law_means (M : Nat) (hM : 5001 < M) (f g : GFml) (s : GStr) (hf : f.Ok) (hg : g.Ok) (hs : s.Ok) (hv : validF f = true) (hw : validF g = true) (n1 : ndF f ≤ 1500) (n2 : ndF g ≤ 1500) (hfr : ∀ x ∈ frF g, x ∈ frF f) (hoc : ocF g [] [] = ocF f [] [])
  (hsem : ∀ N (t : List Int), sem N M g (strT N s) ((frF f).zip t) = sem N M f (strT N s) ((frF f).zip t)) : Tri Tryz.prog 15 [f.st, g.st, s.av] [] (D (.bool true) []) := by
 have hL := law_less f g hf hg hv hw n1 n2 hfr hoc
 have hF := law_free0 f hf (validF_shs hv) (by omega)
 have hEf := fun h => law_evaluated M hM f s (frF f) hf hs hv n1 h
 have hEg := fun h => law_evaluated M hM g s (frF f) hg hs hw n2 h
 generalize frF f = vars at *
 have hvlen : ((vars.map AV.str).length : Int) = vars.length := by simp
 by_cases h4 : vars.length ≤ 4
 ·have hEf := hEf (by omega)
  have hEg := hEg (by omega)
  refine Tri.enter 46 Tryz.func15 rfl rfl rfl rfl fun Fr w0 => ?_
  repeat' (first | (refine AW.r 0 ?_; refine AL.d (AOp.box_ro rfl rfl) ?_; refine AL.d (AOp.box_ro rfl rfl) ?_; refine AL.d (AOp.box_ro rfl rfl) ?_; refine xN 1 ?_) | (refine xS 1 2 ?_; refine AL.d (AOp.call rfl rfl hL) ?_; refine xN 1 ?_) | (refine xS 3 1 ?_; refine AL.d (AOp.call_nil2 rfl rfl hF) ?_; refine xN 1 ?_) | refine AW.re 4 3 ?_ | refine AW.jf ?_ | refine AW.jj (fun hb => ?_) (fun hb => ?_) | refine AW.go ?_ | fail)
  all_goals try (exfalso; simp only [dT, dF] at *; omega)
  repeat' (first | (refine xS 6 3 ?_; refine AL.callQ rfl rfl hEf rfl ?_ ?_; rotate_left; rintro _ _ ⟨_, _, e, _⟩; cases e; rintro _ _ ⟨v1, b1, e, rfl, hq1⟩; injection e with e; subst e <;> refine AL.es 5 ?_ <;> refine AL.nil ?_) | refine AW.go ?_ | fail)
  repeat' (first | (refine xS 7 3 ?_; refine AL.callQ rfl rfl hEg rfl ?_ ?_; rotate_left; rintro _ _ ⟨_, _, e, _⟩; cases e; rintro _ _ ⟨v2, b2, e, rfl, hq2⟩; injection e with e; subst e <;> refine AL.es 5 ?_ <;> refine AL.nil ?_) | refine AW.go ?_ | fail)
  cases b1 with
  | false =>
   repeat' (first | (refine xS 8 3 ?_; refine AL.es 4 ?_; refine AL.es 2 ?_; refine AL.gs ?_; refine xN 2 ?_) | fail)
   exact AW.retv rfl ⟨rfl, rfl⟩
  | true =>
   cases b2 with
   | false =>
    repeat' (first | (refine xS 8 3 ?_; refine AL.es 4 ?_; refine AL.es 2 ?_; refine AL.gs ?_; refine xN 2 ?_) | fail)
    exact AW.retv rfl ⟨rfl, rfl⟩
   | true =>
    obtain ⟨N, s1, p1, e1⟩ := hq1 rfl
    obtain ⟨N', s2, p2, e2⟩ := hq2 rfl
    obtain rfl : N = N' := by have := s1.size; have := s2.size; omega
    rw [qryL_eq (hsem N)] at e2
    have hST := ref_SameT (qryL N M f (strT N s) vars (N ^ vars.length)) (by have := qryL_len N M f (strT N s) vars (N ^ vars.length); omega) (fun t ht => by rw [qryL_len2 _ _ _ _ _ _ t ht]; omega)
    rw [← e1] at e2
    subst e2
    rw [← e1] at hST
    repeat' (first | (refine xS 8 3 ?_; refine AL.es 4 ?_; refine AL.es 2 ?_; ((refine AL.gd ?_; refine AL.d (AOp.call rfl rfl hST) ?_)) <;> refine AL.es 2 ?_ <;> refine AL.nil ?_) | fail)
    exact AW.retv rfl ⟨rfl, rfl⟩
 ·refine Tri.enter 46 Tryz.func15 rfl rfl rfl rfl fun Fr w0 => ?_
  repeat' (first | (refine AW.r 0 ?_; refine AL.d (AOp.box_ro rfl rfl) ?_; refine AL.d (AOp.box_ro rfl rfl) ?_; refine AL.d (AOp.box_ro rfl rfl) ?_; refine xN 1 ?_) | (refine xS 1 2 ?_; refine AL.d (AOp.call rfl rfl hL) ?_; refine xN 1 ?_) | (refine xS 3 1 ?_; refine AL.d (AOp.call_nil2 rfl rfl hF) ?_; refine xN 1 ?_) | refine AW.re 4 3 ?_ | refine AW.re 5 1 ?_ | refine AW.jf ?_ | refine AW.jj (fun hb => ?_) (fun hb => ?_) | refine AW.go ?_ | fail)
  all_goals try (exfalso; simp only [dT, dF] at *; omega)
  exact AW.retv rfl ⟨rfl, rfl⟩
theorem sem_apA (N M : Nat) (f : GFml) (T : TT) (V : VV) (hs : shsF f = true) : sem N M (apA f) T V = sem N M f T V := by
 unfold apA
 refine sem_ap N M (vrF f []) f none_ (vrF f []) 0 T V V hs (fun x hx => vr_ag f [] x (.inl hx)) fun v hv => ?_
 exact ⟨hv, rfl⟩
theorem law_NormMeans (t : TypeId) (f : GFml) (s : GStr) (ho : f.Ok) (hs : s.Ok) : Tri Tryz.prog 3 [f.st, s.av] [TB t] (D (.bool true) [TB t]) := by
 have hF := few_one 300 (by omega) f ho
 have hFS := (law_FewS s hs).pureE [TB t]
 have hAl := alive
 by_cases hfew : wFs 300 [f] 0 ≤ 300
 ·rw [decide_eq_true hfew] at hF
  have hnd := few_nd hfew (by omega)
  have hV := ref_Valid f ho (by omega)
  cases hv : validF f with
  | false =>
   rw [hv] at hV
   obtain ⟨k, ar, nm, vars, args, kids⟩ := f
   refine Tri.enter 60 Tryz.func3 rfl rfl rfl rfl fun Fr w0 => ?_
   repeat' (first | (refine AW.r 0 ?_; refine AL.d (AOp.box_ro rfl rfl) ?_; refine AL.d (AOp.box_ro rfl rfl) ?_; refine xN 1 ?_) | (refine AW.r 1 ?_; refine AL.d AOp.la ?_; refine AL.d (AOp.lit (e := 25) (sz := 6) (by kernel_rfl) rfl rfl rfl (P_one rfl) (by decide)) ?_; refine AL.d (AOp.call rfl rfl (hF.pure _)) ?_; refine AL.es 2 ?_; ((refine AL.gd ?_; (refine AL.d AOp.la ?_))) <;> ((refine AL.gd ?_; (refine AL.d (AOp.lit (e := 28) (sz := 2) (by kernel_rfl) rfl rfl rfl (P_one rfl) (by decide)) ?_))) <;> ((refine AL.gd ?_; ((refine AL.callQ rfl rfl hFS rfl ?_ ?_; rotate_left; rintro _ _ ⟨_, ⟨_, e, _⟩, _⟩; cases e; rintro _ _ ⟨_, ⟨b, e, rfl⟩, rfl⟩; injection e with e; subst e; cases b)))) <;> refine AL.es 3 ?_ <;> (first | (refine AL.gd ?_; (refine AL.d AOp.la ?_)) | refine AL.gs ?_) <;> (first | (refine AL.gd ?_; (refine AL.d (AOp.call rfl rfl (hV.pure _)) ?_)) | refine AL.gs ?_) <;> refine AL.es 2 ?_ <;> refine AL.nil ?_) | (refine AW.r 2 ?_; refine AL.d (AOp.call rfl rfl (hAl.pure _)) ?_; refine xN 1 ?_) | refine AW.jt ?_ | fail)
   all_goals exact AW.retv rfl ⟨rfl, rfl⟩
  | true =>
   rw [hv] at hV
   have hsh := validF_shs hv
   have hN := n_Nnf f ho
   have hA := n_Apart t f ho (by omega)
   unfold apaP at hA
   unfold nnfP at hN
   rw [hv, cond_true, fitF] at hN hA
   obtain ⟨f1, f2, f3, _, _, _, _, _, _⟩ := apA_facts f ho (by omega) hv
   rw [f1, cond_true] at hA
   have hA' : ∀ o, Tri Tryz.prog 14 [f.st] [o, TB t] (D (.tup [(apA f).st, .int .i64 0]) [o, TB t]) := fun o => (Tri.ahead hA [o]).mono (fun x h ⟨h1, ⟨e1, e2⟩, e3⟩ => ⟨e1, by rw [e3, e2]; rfl⟩)
   have hnn := nn_nd f false
   have hM2 := law_means 6000 (by omega) f (apA f) s ho f2 hs hv f1 (by omega) (by omega) (fun x hx => fr_ap x hx) (ap_oc f) (fun N t => sem_apA N 6000 f _ _ hsh)
   cases hw : validF (nnF f false) with
   | true =>
    have hM1 := law_means 6000 (by omega) f (nnF f false) s ho (nn_ok f false ho) hs hv hw (by omega) (by omega) (fun x hx => fr_nn hsh false x hx) (nn_oc f false [] [] hsh) (fun N t => by rw [sem_nn N 6000 f false _ _ hsh]; cases sem N 6000 f (strT N s) ((frF f).zip t) <;> rfl)
    rw [hw, cond_true] at hN
    clear f1 f2 f3 hfew
    generalize nnF f false = g at *
    generalize apA f = a at *
    obtain ⟨k, ar, nm, vars, args, kids⟩ := f
    refine Tri.enter 60 Tryz.func3 rfl rfl rfl rfl fun Fr w0 => ?_
    repeat' (first | (refine AW.r 0 ?_; refine AL.d (AOp.box_ro rfl rfl) ?_; refine AL.d (AOp.box_ro rfl rfl) ?_; refine xN 1 ?_) | (refine AW.r 1 ?_; refine AL.d AOp.la ?_; refine AL.d (AOp.lit (e := 25) (sz := 6) (by kernel_rfl) rfl rfl rfl (P_one rfl) (by decide)) ?_; refine AL.d (AOp.call rfl rfl (hF.pure _)) ?_; refine AL.es 2 ?_; ((refine AL.gd ?_; (refine AL.d AOp.la ?_))) <;> ((refine AL.gd ?_; (refine AL.d (AOp.lit (e := 28) (sz := 2) (by kernel_rfl) rfl rfl rfl (P_one rfl) (by decide)) ?_))) <;> ((refine AL.gd ?_; ((refine AL.callQ rfl rfl hFS rfl ?_ ?_; rotate_left; rintro _ _ ⟨_, ⟨_, e, _⟩, _⟩; cases e; rintro _ _ ⟨_, ⟨b, e, rfl⟩, rfl⟩; injection e with e; subst e; cases b)))) <;> refine AL.es 3 ?_ <;> (first | (refine AL.gd ?_; (refine AL.d AOp.la ?_)) | refine AL.gs ?_) <;> (first | (refine AL.gd ?_; (refine AL.d (AOp.call rfl rfl (hV.pure _)) ?_)) | refine AL.gs ?_) <;> refine AL.es 2 ?_ <;> refine AL.nil ?_) | (refine AW.r 2 ?_; refine AL.d (AOp.call rfl rfl (hAl.pure _)) ?_; refine xN 1 ?_) | refine AW.jt ?_ | refine AW.jf ?_ | refine AW.go ?_ | fail)
    ·exact AW.retv rfl ⟨rfl, rfl⟩
    repeat' (first | (refine AW.r 3 ?_; refine AL.d AOp.la ?_; refine AL.d (AOp.call rfl rfl (hN.pure _)) ?_; refine AL.es 3 ?_; refine AL.alloc_z (t := 25) zF (by kernel_rfl) rfl rfl fun r5 => ?_; refine AL.sl 0 ?_; refine xN 1 ?_) | refine AW.go ?_ | fail)
    repeat' (first | (refine AW.r 4 ?_; refine AL.d AOp.la ?_; refine AL.d (AOp.call rfl rfl (hA' _)) ?_; refine AL.es 3 ?_; refine AL.alloc_z (t := 25) zF (by kernel_rfl) rfl rfl fun r7 => ?_; refine AL.sl 0 ?_; refine xN 1 ?_) | refine AW.go ?_ | fail)
    repeat' (first | (refine xS 5 3 ?_; refine AL.es 3 ?_; ((refine AL.gd ?_; (refine AL.d AOp.la ?_))) <;> ((refine AL.gd ?_; (refine AL.d (AOp.lw 1) ?_))) <;> ((refine AL.gd ?_; (refine AL.d AOp.la ?_))) <;> ((refine AL.gd ?_; (refine AL.d (AOp.call rfl rfl (hM1.pure _)) ?_))) <;> refine AL.es 3 ?_ <;> (refine AL.es 4 ?_) <;> ((refine AL.gd ?_; (refine AL.d AOp.la ?_))) <;> ((refine AL.gd ?_; (refine AL.d (AOp.lw 0) ?_))) <;> ((refine AL.gd ?_; (refine AL.d AOp.la ?_))) <;> ((refine AL.gd ?_; (refine AL.d (AOp.call rfl rfl (hM2.pure _)) ?_))) <;> refine AL.es 2 ?_ <;> ((refine AL.gd ?_; (refine AL.d (AOp.call rfl rfl (hAl.pure _)) ?_))) <;> refine AL.es 2 ?_ <;> refine AL.nil ?_) | fail)
    exact AW.ret_drop rfl (.cons _ (List.sublist_cons_self _ _)) ⟨rfl, rfl⟩
   | false =>
    rw [hw, cond_false] at hN
    clear f1 f2 f3 hfew
    generalize apA f = a at *
    obtain ⟨k, ar, nm, vars, args, kids⟩ := f
    refine Tri.enter 60 Tryz.func3 rfl rfl rfl rfl fun Fr w0 => ?_
    repeat' (first | (refine AW.r 0 ?_; refine AL.d (AOp.box_ro rfl rfl) ?_; refine AL.d (AOp.box_ro rfl rfl) ?_; refine xN 1 ?_) | (refine AW.r 1 ?_; refine AL.d AOp.la ?_; refine AL.d (AOp.lit (e := 25) (sz := 6) (by kernel_rfl) rfl rfl rfl (P_one rfl) (by decide)) ?_; refine AL.d (AOp.call rfl rfl (hF.pure _)) ?_; refine AL.es 2 ?_; ((refine AL.gd ?_; (refine AL.d AOp.la ?_))) <;> ((refine AL.gd ?_; (refine AL.d (AOp.lit (e := 28) (sz := 2) (by kernel_rfl) rfl rfl rfl (P_one rfl) (by decide)) ?_))) <;> ((refine AL.gd ?_; ((refine AL.callQ rfl rfl hFS rfl ?_ ?_; rotate_left; rintro _ _ ⟨_, ⟨_, e, _⟩, _⟩; cases e; rintro _ _ ⟨_, ⟨b, e, rfl⟩, rfl⟩; injection e with e; subst e; cases b)))) <;> refine AL.es 3 ?_ <;> (first | (refine AL.gd ?_; (refine AL.d AOp.la ?_)) | refine AL.gs ?_) <;> (first | (refine AL.gd ?_; (refine AL.d (AOp.call rfl rfl (hV.pure _)) ?_)) | refine AL.gs ?_) <;> refine AL.es 2 ?_ <;> refine AL.nil ?_) | (refine AW.r 2 ?_; refine AL.d (AOp.call rfl rfl (hAl.pure _)) ?_; refine xN 1 ?_) | refine AW.jt ?_ | refine AW.jf ?_ | refine AW.go ?_ | fail)
    ·exact AW.retv rfl ⟨rfl, rfl⟩
    repeat' (first | (refine AW.r 3 ?_; refine AL.d AOp.la ?_; refine AL.d (AOp.call rfl rfl (hN.pure _)) ?_; refine AL.es 3 ?_; refine AL.alloc_z (t := 25) zF (by kernel_rfl) rfl rfl fun r5 => ?_; refine AL.sl 0 ?_; refine xN 1 ?_) | refine AW.go ?_ | fail)
    repeat' (first | (refine AW.r 4 ?_; refine AL.d AOp.la ?_; refine AL.d (AOp.call rfl rfl (hA' _)) ?_; refine AL.es 3 ?_; refine AL.alloc_z (t := 25) zF (by kernel_rfl) rfl rfl fun r7 => ?_; refine AL.sl 0 ?_; refine xN 1 ?_) | refine AW.go ?_ | fail)
    repeat' (first | (refine xS 5 3 ?_; refine AL.es 3 ?_; refine AL.gu ?_; refine AL.gu ?_; refine AL.gu ?_; refine AL.gu ?_; refine AL.es 3 ?_; refine AL.es 4 ?_; ((refine AL.gd ?_; (refine AL.d AOp.la ?_))) <;> ((refine AL.gd ?_; (refine AL.d (AOp.lw 0) ?_))) <;> ((refine AL.gd ?_; (refine AL.d AOp.la ?_))) <;> ((refine AL.gd ?_; (refine AL.d (AOp.call rfl rfl (hM2.pure _)) ?_))) <;> refine AL.es 2 ?_ <;> ((refine AL.gd ?_; (refine AL.d (AOp.call rfl rfl (hAl.pure _)) ?_))) <;> refine AL.es 2 ?_ <;> refine AL.nil ?_) | fail)
    exact AW.ret_drop rfl (.cons _ (List.sublist_cons_self _ _)) ⟨rfl, rfl⟩
 ·rw [decide_eq_false hfew] at hF
  obtain ⟨k, ar, nm, vars, args, kids⟩ := f
  refine Tri.enter 60 Tryz.func3 rfl rfl rfl rfl fun Fr w0 => ?_
  repeat' (first | (refine AW.r 0 ?_; refine AL.d (AOp.box_ro rfl rfl) ?_; refine AL.d (AOp.box_ro rfl rfl) ?_; refine xN 1 ?_) | (refine AW.r 1 ?_; refine AL.d AOp.la ?_; refine AL.d (AOp.lit (e := 25) (sz := 6) (by kernel_rfl) rfl rfl rfl (P_one rfl) (by decide)) ?_; refine AL.d (AOp.call rfl rfl (hF.pure _)) ?_; refine AL.es 2 ?_; refine AL.gs ?_; refine AL.gs ?_; refine AL.gs ?_; refine AL.es 3 ?_; refine AL.gs ?_; refine AL.gs ?_; refine xN 2 ?_) | (refine AW.r 2 ?_; refine AL.d (AOp.call rfl rfl (hAl.pure _)) ?_; refine xN 1 ?_) | refine AW.jt ?_ | fail)
  exact AW.retv rfl ⟨rfl, rfl⟩
section
variable {H : Type} {enc : TypeId × Value → H} {w : World}
theorem rdInt (N : Nat) : Rd enc Tryz.prog w N 3 iav iOk := Rd.int' (by kernel_rfl)
theorem rdStr (N : Nat) : Rd enc Tryz.prog w N 9 AV.str strOk := Rd.str' (by kernel_rfl)
theorem rdStrs (N : Nat) : Rd enc Tryz.prog w N 22 strs (lenOk 16 strOk) := Rd.slice' (by kernel_rfl) (rdStr N)
theorem rdFml : ∀ N : Nat, Rd enc Tryz.prog w N 25 GFml.av GFml.Ok := Rd.all fun N ih =>
 Rd.of_q (RdQ.struct' (by kernel_rfl) (.cons (rdInt N).q (.cons (rdInt N).q (.cons (rdStr N).q (.cons (rdStrs N).q (.cons (rdStrs N).q (.cons (Rd.slice' (T := 23) (n := 104) (by kernel_rfl) ih).q (.nil)))))))) fun v h => by
  obtain ⟨vs, rfl, h⟩ := h
  obtain ⟨_, v1, rfl, ⟨a, rfl, ha⟩, h1⟩ := h.un
  obtain ⟨_, v2, rfl, ⟨b, rfl, hb⟩, h2⟩ := h1.un
  obtain ⟨_, v3, rfl, ⟨c, rfl, hc⟩, h3⟩ := h2.un
  obtain ⟨_, v4, rfl, ⟨d, rfl, hd⟩, h4⟩ := h3.un
  obtain ⟨_, v5, rfl, ⟨e, rfl, he⟩, h5⟩ := h4.un
  obtain ⟨_, v6, rfl, ⟨f, rfl, hf⟩, h6⟩ := h5.un
  obtain rfl := h6.un0
  exact ⟨⟨a, b, c, d, e, f⟩, by rw [GFml.av_eq]; rfl, .mk ⟨ha, hb, hc, hd, he⟩ hf.1 hf.2⟩
end
mutual
def nU : AV → Bool
 | .int k _ => !(k == .u64)
 | .bool _ => true
 | .str _ => true
 | .st fs => nUs fs
 | .sl xs => nUs xs
 | _ => false
def nUs : List AV → Bool
 | [] => true
 | x :: l => nU x && nUs l
end
mutual
theorem nU_cells {S : Rg} {w : World} : ∀ (x : AV) (cs : List Value), nU x = true → RelC S w x cs → ∀ u ∈ cs, ∀ n, u ≠ .int .u64 n
 | .int k n, cs, h, hr, u, hu, m => by
  simp only [RelC] at hr
  rw [hr, List.mem_singleton] at hu
  subst hu
  rintro ⟨⟩
  simp [nU] at h
 | .bool b, cs, h, hr, u, hu, m => by simp only [RelC] at hr; rw [hr, List.mem_singleton] at hu; subst hu; rintro ⟨⟩
 | .str s, cs, h, hr, u, hu, m => by simp only [RelC] at hr; rw [hr, List.mem_singleton] at hu; subst hu; rintro ⟨⟩
 | .st fs, cs, h, hr, u, hu, m => by
  simp only [RelC] at hr
  rw [nU] at h
  exact nUs_cells fs cs h hr u hu m
 | .sl xs, cs, h, hr, u, hu, m => by
  simp only [RelC] at hr
  obtain ⟨A, c, e, _⟩ := hr
  rw [e, List.mem_singleton] at hu
  subst hu
  rintro ⟨⟩
 | .any, _, h, _, _, _, _ => by simp [nU] at h
 | .slt _ _ _, _, h, _, _, _, _ => by simp [nU] at h
 | .osl _ _ _, _, h, _, _, _, _ => by simp [nU] at h
 | .at _, _, h, _, _, _, _ => by simp [nU] at h
 | .ref _ _, _, h, _, _, _, _ => by simp [nU] at h
 | .map _, _, h, _, _, _, _ => by simp [nU] at h
 | .fn _ _, _, h, _, _, _, _ => by simp [nU] at h
 | .tup _, _, h, _, _, _, _ => by simp [nU] at h
 | .val _, _, h, _, _, _, _ => by simp [nU] at h
theorem nUs_cells {S : Rg} {w : World} : ∀ (xs : List AV) (cs : List Value), nUs xs = true → RelCs S w xs cs → ∀ u ∈ cs, ∀ n, u ≠ .int .u64 n
 | [], cs, h, hr, u, hu, m => by simp only [RelCs] at hr; rw [hr] at hu; cases hu
 | x :: xs, cs, h, hr, u, hu, m => by
  simp only [RelCs] at hr
  obtain ⟨c1, c2, e, h1, h2⟩ := hr
  rw [nUs, bA] at h
  rw [e] at hu
  rcases List.mem_append.1 hu with hu | hu
  ·exact nU_cells x c1 h.1 h1 u hu m
  ·exact nUs_cells xs c2 h.2 h2 u hu m
end
section
variable {S S' : Rg} {w : World} {G : Nat}
mutual
theorem nU_mv (hG : ∀ o v, w.cell? ⟨G, o, none⟩ = some v → ∃ n, v = .int .u64 n) (hS : ∀ b o, S' b o → S b o ∨ b = G) : ∀ (x : AV) (cs : List Value), nU x = true → RelC S w x cs → RelC S' w x cs
 | .int k n, cs, h, hr => by simpa [RelC] using hr
 | .bool b, cs, h, hr => by simpa [RelC] using hr
 | .str s, cs, h, hr => by simpa [RelC] using hr
 | .st fs, cs, h, hr => by
  simp only [RelC] at hr ⊢
  rw [nU] at h
  exact nUs_mv hG hS fs cs h hr
 | .sl xs, cs, h, hr => by
  simp only [RelC] at hr ⊢
  rw [nU] at h
  obtain ⟨A, c, h1, h2, h3, h4⟩ := hr
  refine ⟨A, c, h1, h2, h3, fun hx => ?_⟩
  obtain ⟨b, o, sz, e, hr⟩ := h4 hx
  exact ⟨b, o, sz, e, nU_row hG hS xs sz b o h hr⟩
 | .any, _, h, _ => by simp [nU] at h
 | .slt _ _ _, _, h, _ => by simp [nU] at h
 | .osl _ _ _, _, h, _ => by simp [nU] at h
 | .at _, _, h, _ => by simp [nU] at h
 | .ref _ _, _, h, _ => by simp [nU] at h
 | .map _, _, h, _ => by simp [nU] at h
 | .fn _ _, _, h, _ => by simp [nU] at h
 | .tup _, _, h, _ => by simp [nU] at h
 | .val _, _, h, _ => by simp [nU] at h
theorem nUs_mv (hG : ∀ o v, w.cell? ⟨G, o, none⟩ = some v → ∃ n, v = .int .u64 n) (hS : ∀ b o, S' b o → S b o ∨ b = G) : ∀ (xs : List AV) (cs : List Value), nUs xs = true → RelCs S w xs cs → RelCs S' w xs cs
 | [], cs, h, hr => by simpa [RelCs] using hr
 | x :: xs, cs, h, hr => by
  simp only [RelCs] at hr ⊢
  obtain ⟨c1, c2, e, h1, h2⟩ := hr
  rw [nUs, bA] at h
  exact ⟨c1, c2, e, nU_mv hG hS x c1 h.1 h1, nUs_mv hG hS xs c2 h.2 h2⟩
theorem nU_row (hG : ∀ o v, w.cell? ⟨G, o, none⟩ = some v → ∃ n, v = .int .u64 n) (hS : ∀ b o, S' b o → S b o ∨ b = G) : ∀ (xs : List AV) (sz b o : Nat), nUs xs = true → RelRow S w xs sz b o → RelRow S' w xs sz b o
 | [], _, _, _, _, _ => by simp [RelRow]
 | x :: xs, sz, b, o, h, hr => by
  simp only [RelRow] at hr ⊢
  rw [nUs, bA] at h
  obtain ⟨⟨cs, h1, h2, h3⟩, h4⟩ := hr
  refine ⟨⟨cs, h1, nU_mv hG hS x cs h.1 h2, fun j u hj => ?_⟩, nU_row hG hS xs sz b (o + sz) h.2 h4⟩
  obtain ⟨k1, k2⟩ := h3 j u hj
  refine ⟨fun hs => ?_, k2⟩
  rcases hS _ _ hs with hs | rfl
  ·exact k1 hs
  ·obtain ⟨n, e⟩ := hG _ _ k2
   exact nU_cells x cs h.1 h2 u (lG hj) n e
end
end
theorem nU_strs : ∀ l : List ByteArray, nUs (l.map AV.str) = true
 | [] => rfl
 | x :: l => by rw [List.map_cons, nUs, nU_strs l]; rfl
mutual
theorem nU_fmlA : ∀ f : GFml, nU f.av = true
 | ⟨k, ar, nm, vars, args, kids⟩ => by
  rw [GFml.av_eq]
  simp only [GFml.st, nU, nUs, strs, nU_strs, nU_fmlL kids]
  rfl
theorem nU_fmlL : ∀ l : List GFml, nUs (l.map GFml.av) = true
 | [] => rfl
 | x :: l => by rw [List.map_cons, nUs, nU_fmlA x, nU_fmlL l]; rfl
end
theorem nU_fml (f : GFml) : nU f.st = true := by
 rw [← GFml.av_eq]; exact nU_fmlA f
def TabAt (w : World) (t : TypeId) : Prop := ∃ cs : Array Value, w.heap[tabG]? = some (.cells cs t (0, 0)) ∧ cs.toList = Lib.pow10Tab.map fun z => Value.int .u64 z
theorem calls_TB {f : FuncId} {args : List AV} {vs : List Value} {t : TypeId} {w : World} (h : Tri Tryz.prog f args [TB t] (D (.bool true) [TB t])) (hr : RelVs NoRg w args vs) (hu : ∀ x ∈ args, nU x = true) (hc : TabAt w t) :
  Calls Tryz.prog f vs.toArray w (fun e W' => e = .returned (.bool true) ∧ Below w.heap.size w W') := by
 obtain ⟨cs, hh, hl⟩ := hc
 have hcs : ∀ (i : Nat) x, (Lib.pow10Tab.map (AV.int .u64))[i]? = some x → ∃ n, x = .int .u64 n ∧ cs[i]? = some (.int .u64 n) := fun i x hx => by
  rw [List.getElem?_map] at hx
  cases hz : Lib.pow10Tab[i]? with
  | none => rw [hz] at hx; cases hx
  | some z =>
   rw [hz] at hx
   refine ⟨z, (Option.some.inj hx).symm, ?_⟩
   rw [← Array.getElem?_toList, hl, List.getElem?_map, hz]; rfl
 have hlen : cs.size = (Lib.pow10Tab.map (AV.int .u64)).length := by rw [← Array.length_toList, hl, lM, lM]
 have hst : St NoRg [TB t] w := {
  nodup := by simp [TB, Own.blk]
  lt := fun o ho b hb => by
   rw [List.mem_singleton.1 ho] at hb
   simp only [TB, Own.blk, Option.some.injEq] at hb
   subst hb
   exact (Array.getElem?_eq_some_iff.1 hh).1
  fr := fun o ho b hb off h => h
  frlt := fun b o h => h.elim
  rel := fun o ho => by
   rw [List.mem_singleton.1 ho]
   refine ⟨cs, hh, hlen, fun i x hx => ?_⟩
   obtain ⟨n, rfl, hi⟩ := hcs i x hx
   exact ⟨_, hi, by simp [RelC]⟩ }
 have hG : ∀ o v, w.cell? ⟨tabG, o, none⟩ = some v → ∃ n, v = .int .u64 n := fun o v hv => by
  have e : w.cell? ⟨tabG, o, none⟩ = cs[o]? := cell_of_row w tabG o cs t (0, 0) hh
  rw [e, ← Array.getElem?_toList, hl, List.getElem?_map] at hv
  cases hz : Lib.pow10Tab[o]? with
  | none => rw [hz] at hv; cases hv
  | some z => rw [hz] at hv; exact ⟨z, (Option.some.inj hv).symm⟩
 have hS : ∀ b o, Sof NoRg [TB t] b o → NoRg b o ∨ b = tabG := by
  rintro b o (h | ⟨x, hx, hr⟩)
  ·exact .inl h
  ·rw [List.mem_singleton.1 hx] at hr; exact .inr hr
 have hmv : ∀ (l : List AV) (us : List Value), (∀ x ∈ l, nU x = true) → RelVs NoRg w l us → RelVs (Sof NoRg [TB t]) w l us := by
  intro l
  induction l with
  | nil => intro us _ h; simpa [RelVs] using h
  | cons x l ih =>
   intro us hx h
   simp only [RelVs] at h ⊢
   obtain ⟨u, us', h1, h2, h3, h4⟩ := h
   exact ⟨u, us', h1, nU_mv hG hS x _ (hx x (by simp)) h2, h3, ih us' (fun y hy => hx y (by simp [hy])) h4⟩
 refine (h.2 NoRg w vs hst (hmv args vs hu hr)).mono fun e W' he => ?_
 obtain ⟨x, ah, ⟨rfl, rfl⟩, hrel, hst', hext, _⟩ := he
 obtain ⟨v, rfl, hv⟩ := hrel
 refine ⟨?_, ?_⟩
 ·obtain ⟨hc, hsh⟩ := hv
  simp only [RelC] at hc
  cases v <;> simp [Value.cells] at hc <;> simp_all [Shape]
 ·refine ⟨hext.os, hext.tape, hext.output, hext.size, fun k hk => ?_⟩
  by_cases e : k = tabG
  ·subst e
   obtain ⟨cs', h1, h2, h3⟩ := hst'.rel (TB t) (List.mem_singleton.2 rfl)
   rw [h1, hh]
   have : cs' = cs := by
    apply Array.ext_getElem?
    intro i
    by_cases hi : i < (Lib.pow10Tab.map (AV.int .u64)).length
    ·obtain ⟨v, hv1, hv2⟩ := h3 i _ (List.getElem?_eq_getElem hi)
     obtain ⟨n, e, hi2⟩ := hcs i _ (List.getElem?_eq_getElem hi)
     rw [e] at hv2
     simp only [RelC, List.cons.injEq, and_true] at hv2
     rw [hv1, hi2, hv2]
    ·rw [Array.getElem?_eq_none (by omega), Array.getElem?_eq_none (by omega)]
   rw [this]
  ·exact hext.blk k hk fun o ho => by
    obtain ⟨x, hx, hr⟩ := ho
    rw [List.mem_singleton.1 hx] at hr
    exact e hr
theorem TabAt_of {W : World} {d1 d2 : String × DataW Unit} {k1 : String} {d3 : DataW Unit} (he : k1 = "internal/strconv.uint64pow10") (hd : d3 = Lib.tabData .u64 Lib.pow10Tab) (h : laidMet Tryz.prog [d1, d2, (k1, d3)] W) : ∃ t, TabAt W t := by
 subst he hd
 obtain ⟨n1, e1⟩ := d1
 obtain ⟨n2, e2⟩ := d2
 obtain ⟨ps, hLV, _, hcell⟩ := h
 simp only [DataW.LaidVars] at hLV
 obtain ⟨g1, t1, cs1, fu1, p1, q1, _, _, _, _, ⟨g2, t2, cs2, fu2, p2, q2, _, _, _, _, ⟨g3, t3, cs3, fu3, p3, q3, hg, hty, hv, htr, rfl, rfl⟩, rfl⟩, rfl⟩ := hLV
 obtain rfl := Option.some.inj (tabG_eq.symm.trans hg)
 have hty' : (Tryz.prog.globals[tabG]?).map (·.type) = some 253 := by kernel_rfl
 obtain rfl := Option.some.inj (hty'.symm.trans hty)
 have hcs := Lib.cells_of_tab (n := 20) (e := 238) (by kernel_rfl) (by kernel_rfl) (by kernel_rfl) (by kernel_rfl) htr
 have hsz : cs3.size = 20 := by rw [← Array.length_toList, hcs, lM, Lib.pow10Tab_length]
 obtain ⟨⟨c, t, hh⟩, _⟩ := hcell tabG 0 (List.mem_append_right _ (List.mem_append_right _ (List.mem_append_left _ (List.mem_append_left _ (List.mem_map.2 ⟨0, by rw [hsz]; simp, rfl⟩)))))
 refine ⟨t, cs3, ?_, hcs⟩
 unfold World.var? at hv
 rw [tabG_eq, Option.bind_some, hh] at hv
 rw [hh, Option.some.inj hv]
section
variable {H : Type} {enc : TypeId × Value → H} {w : World}
theorem rdInts (N : Nat) : Rd enc Tryz.prog w N 52 ints (lenOk 8 iOk) := Rd.slice' (by kernel_rfl) (rdInt N)
theorem rdIntss (N : Nat) : Rd enc Tryz.prog w N 48 (fun l => .sl (l.map ints)) (lenOk 24 (lenOk 8 iOk)) := Rd.slice' (by kernel_rfl) (rdInts N)
theorem rdRel : ∀ N : Nat, Rd enc Tryz.prog w N 78 GRel.av GRel.Ok := Rd.of_succ fun N =>
 Rd.of_q (RdQ.struct' (by kernel_rfl) (.cons (rdStr N).q (.cons (rdInt N).q (.cons (rdIntss N).q (.nil))))) fun v h => by
  obtain ⟨vs, rfl, h⟩ := h
  obtain ⟨_, v1, rfl, ⟨a, rfl, ha⟩, h1⟩ := h.un
  obtain ⟨_, v2, rfl, ⟨b, rfl, hb⟩, h2⟩ := h1.un
  obtain ⟨_, v3, rfl, ⟨c, rfl, hc⟩, h3⟩ := h2.un
  obtain rfl := h3.un0
  exact ⟨⟨a, b, c⟩, rfl, ha, hb, hc⟩
theorem rdStr_ : ∀ N : Nat, Rd enc Tryz.prog w N 28 GStr.av GStr.Ok := Rd.of_succ fun N =>
 Rd.of_q (RdQ.struct' (by kernel_rfl) (.cons (rdInt N).q (.cons (Rd.slice' (T := 26) (n := 48) (by kernel_rfl) (rdRel N)).q (.nil)))) fun v h => by
  obtain ⟨vs, rfl, h⟩ := h
  obtain ⟨_, v1, rfl, ⟨a, rfl, ha⟩, h1⟩ := h.un
  obtain ⟨_, v2, rfl, ⟨b, rfl, hb⟩, h2⟩ := h1.un
  obtain rfl := h2.un0
  exact ⟨⟨a, b⟩, rfl, ha, hb⟩
end
theorem nUs_all {α : Type} {g : α → AV} : ∀ {l : List α}, (∀ x, nU (g x) = true) → nUs (l.map g) = true
 | [], _ => rfl
 | x :: l, h => by rw [List.map_cons, nUs, h x, Bool.true_and]; exact nUs_all h
theorem nU_str (s : GStr) : nU s.av = true := by
 have h1 : ∀ t : List Int, nU (ints t) = true := fun t => by
  show nU (.sl (t.map iav)) = true
  rw [nU]; exact nUs_all fun x => rfl
 have h2 : ∀ r : GRel, nU r.av = true := fun r => by
  unfold GRel.av
  rw [nU, nUs, nUs, nUs, nUs, nU, nU, nU, nUs_all h1]; rfl
 unfold GStr.av
 rw [nU, nUs, nUs, nUs, nU, nU, nUs_all h2]; rfl
end Go.Proofs.YtlpndgodkkndnaaGreatDoor
