/- Contracts of the functions, part 5. -/
import Derived.Test.YtlpndgodkkndnaaGreatDoorA4
import Derived.Test.YtlpndgodkkndnaaGreatDoorA4
import Derived.Test.YtlpndgodkkndnaaGreatDoorS2
import Derived.Test.YtlpndgodkkndnaaGreatDoorS3
import Derived.Test.YtlpndgodkkndnaaGreatDoorA2
import Derived.Test.YtlpndgodkkndnaaGreatDoorA1
import Derived.Test.YtlpndgodkkndnaaGreatDoorA3
import Derived.Test.YtlpndgodkkndnaaGreatDoorProg
import Derived.Lib.LaidTab
namespace Go.Proofs.YtlpndgodkkndnaaGreatDoor
open Go.RowKit Go.SX
set_option maxRecDepth 100000
set_option maxHeartbeats 4000000
set_option linter.unusedVariables false
set_option linter.unusedSimpArgs false
theorem pl_binds {k ar : Int} {nm : ByteArray} {vars args : List ByteArray} {kids : List GFml} (h : plF ⟨k, ar, nm, vars, args, kids⟩ = true) : bindsB ⟨k, ar, nm, vars, args, kids⟩ = false ∧ k ≤ 7 ∧ kids.all plF = true := by
 rw [plF_eq, bA, dT] at h
 refine ⟨?_, h.1, h.2⟩
 unfold bindsB
 simp
 omega
mutual
theorem pl_all : ∀ f : GFml, plF f = true → (∀ out, ocF f [] out = out ++ atF f) ∧ arF f [] = true ∧ grF f = true
 | ⟨k, ar, nm, vars, args, kids⟩, h => by
  obtain ⟨h1, h2, h3⟩ := pl_binds h
  obtain ⟨i1, i2, i3⟩ := pl_allL kids h3
  refine ⟨fun out => ?_, ?_, ?_⟩
  ·rw [ocF, atF, h1]
   cases k == 0 with
   | true => rfl
   | false => exact i1 out
  ·rw [arF, h1]
   cases k == 0 with
   | true => rfl
   | false => exact i2
  ·rw [grF, i3, show (k == 8) = false by simp; omega]; rfl
theorem pl_allL : ∀ l : List GFml, l.all plF = true → (∀ out, ocFs l [] out = out ++ atL l) ∧ arFs l [] = true ∧ grFs l = true
 | [], _ => by refine ⟨fun out => ?_, rfl, rfl⟩; rw [ocFs, atL, List.append_nil]
 | x :: l, h => by
  rw [List.all_cons, bA] at h
  obtain ⟨i1, i2, i3⟩ := pl_all x h.1
  obtain ⟨j1, j2, j3⟩ := pl_allL l h.2
  refine ⟨fun out => ?_, ?_, ?_⟩
  ·rw [ocFs, i1, j1, atL, List.append_assoc]
  ·rw [arFs, i2, j2]; rfl
  ·rw [grFs, i3, j3]; rfl
end
mutual
theorem px_ok : ∀ f : GFml, f.Ok → (pxF f).2.Ok
 | ⟨k, ar, nm, vars, args, kids⟩, h => by
  have hh := h
  obtain ⟨⟨h1, h2, h3, h4, h5⟩, h6, h7⟩ := h
  rw [pxF]
  cases (k == 6 || k == 7) with
  | true => rw [cond_true]; exact px_okH kids h7
  | false =>
   rw [cond_false]
   cases (k == 4 || k == 5) with
   | true =>
    rw [cond_true]
    exact .mk ⟨h1, rfl, by show (0 : Nat) ≤ _; omega, lenOk_nil _ _, lenOk_nil _ _⟩ (by show (pxL kids).2.length * 104 ≤ _; rw [pxL_len]; exact h6) (px_okL kids h7)
   | false => exact hh
theorem px_okH : ∀ l : List GFml, (∀ x ∈ l, x.Ok) → (pxH l).2.Ok
 | [], _ => by rw [pxH]; exact noF_ok
 | x :: l, h => by rw [pxH]; exact px_ok x (h x (List.mem_cons_self ..))
theorem px_okL : ∀ l : List GFml, (∀ x ∈ l, x.Ok) → ∀ y ∈ (pxL l).2, y.Ok
 | [], _, y, hy => by rw [pxL] at hy; cases hy
 | x :: l, h, y, hy => by
  rw [pxL] at hy
  rcases List.mem_cons.1 hy with rfl | hy
  ·exact px_ok x (h x (List.mem_cons_self ..))
  ·exact px_okL l (fun z hz => h z (List.mem_cons_of_mem _ hz)) y hy
end
def prA (f : GFml) : GFml := (apF (nnF f false) none_ (vrF f []) 0).1
def prG (f : GFml) : GFml := wrapQ (mgL (pxF (prA f)).1) (pxF (prA f)).2
def preP (f : GFml) : GFml × Int := bif validF f then (bif plF f then fitF (prG f) else (noF, 2)) else (noF, 1)
mutual
def prB : GFml → Bool
 | ⟨k, ar, nm, vars, args, kids⟩ => bif k == 6 || k == 7 then prH kids else opF ⟨k, ar, nm, vars, args, kids⟩
def prH : List GFml → Bool
 | [] => false
 | x :: _ => prB x
end
theorem op_pr : ∀ m : GFml, opF m = true → prB m = true
 | ⟨k, ar, nm, vars, args, kids⟩, h => by
  have hh := h
  rw [opF, bA] at h
  rw [prB]
  cases hk : (k == 6 || k == 7) with
  | true => rw [hk] at h; exact absurd h.1 (by decide)
  | false => exact hh
theorem wrap_pr : ∀ (l : List Qu) (m : GFml), (∀ q ∈ l, Pq q) → opF m = true → prB (wrapQ l m) = true
 | [], m, _, h => op_pr m h
 | q :: l, m, hq, h => by
  have hk := (hq q (List.mem_cons_self ..)).1
  show prB ⟨q.1, 0, empB, q.2, [], [wrapQ l m]⟩ = true
  rw [prB, show (q.1 == 6 || q.1 == 7) = true by simpa using hk]
  exact wrap_pr l m (fun p hp => hq p (List.mem_cons_of_mem _ hp)) h
theorem wrap_at : ∀ (l : List Qu) (m : GFml), (∀ q ∈ l, Pq q) → atF (wrapQ l m) = atF m
 | [], m, _ => rfl
 | q :: l, m, hq => by
  have hk := (hq q (List.mem_cons_self ..)).1
  show atF ⟨q.1, 0, empB, q.2, [], [wrapQ l m]⟩ = _
  rw [atF, show (q.1 == 0) = false by simp; omega, cond_false, atL, atL, List.append_nil]
  exact wrap_at l m fun p hp => hq p (List.mem_cons_of_mem _ hp)
structure PrA (f a : GFml) : Prop where
 ok : a.Ok
 sh : shsF a = true
 pl : plF a = true
 n1 : n1F a = true
 nd : ndF a ≤ 2 * ndF f
 dp : dpF a ≤ dpF f + 1
 bd : (bdF a).length = (bdF f).length
 nodup : (bdF a).Nodup
 fv : ∀ s, fvB s a = true → fvB s f = true ∧ s ∉ bdF a
 oc : ocF a [] [] = ocF f [] []
 sem : ∀ N M T V, sem N M a T V = sem N M f T V
theorem prA_facts (f : GFml) (ho : f.Ok) (hn : ndF f ≤ 2000) (hs : shsF f = true) (hp : plF f = true) : PrA f (prA f) := by
 obtain ⟨p1, p2, p3, p4, p5⟩ := nn_pl f false hs hp
 have hs2 := nn_sh f false hs
 have hnd := nn_nd f false
 have hok := nn_ok f false ho
 have l1 := bdF_len f hs
 have l2 := vrF_len f [] hs
 rw [List.length_nil, Nat.zero_add] at l2
 have hmul : (bdF (nnF f false)).length * ((vrF f []).length + (bdF (nnF f false)).length + 1) ≤ 48000 * 144001 := Nat.mul_le_mul (by rw [p4]; omega) (by rw [p4]; omega)
 have hT2 : 0 + (bdF (nnF f false)).length * ((vrF f []).length + (bdF (nnF f false)).length + 1) ≤ 9000000000 := by omega
 have her : erF (prA f) = erF (nnF f false) := ap_er _ _ _ _
 obtain ⟨e1, e2, e3, e4⟩ := er_pl (prA f)
 obtain ⟨g1, g2, g3, g4⟩ := er_pl (nnF f false)
 rw [her] at e1 e2 e3 e4
 have hfr : Fresh (vrF f []) (bdF (prA f)) := ap_fresh _ none_ (vrF f []) 0
 refine ⟨ap_ok _ none_ _ 0 _ hok (Nat.le_refl _) hT2 (fun v w h => by cases h), ap_sh _ none_ _ 0 _ hs2 (Nat.le_refl _) hT2 (fun v w h => by cases h), by rw [← e1, g1]; exact p1, by rw [← e2, g2]; exact p2, ?_, by rw [← e3, g3]; exact p3, by rw [← e4, g4, p4], hfr.1, fun s h => ?_, ?_, fun N M T V => ?_⟩
 ·rw [← er_nd (prA f), her, er_nd]; exact hnd
 ·obtain ⟨v, h1, h2⟩ := ap_fv s _ _ _ _ h
  have h3 : v = s := h2
  subst h3
  have h4 := fr_nn hs false v ((frF_fv _ v).2 h1)
  exact ⟨(frF_fv f v).1 h4, fun hm => hfr.2 v hm (vr_ag f [] v (.inl (frF_mem f v h4)))⟩
 ·rw [← er_oc (prA f), her, er_oc]; exact nn_oc f false [] [] hs
 ·have h1 : sem N M (prA f) T V = sem N M (nnF f false) T V := sem_ap N M (vrF f []) (nnF f false) none_ (vrF f []) 0 T V V hs2 (fun x hx => vr_ag f [] x (.inl (p5 x hx))) fun v hv => ⟨hv, rfl⟩
  rw [h1, sem_nn N M f false T V hs]
  cases sem N M f T V <;> rfl
structure PrG (f g : GFml) : Prop where
 ok : g.Ok
 sh : shsF g = true
 pl : plF g = true
 nd : ndF g ≤ 2 * ndF f
 dp : dpF g ≤ dpF f + 1 + (bdF f).length
 fv : ∀ s, fvB s g = true → fvB s f = true
 oc : ocF g [] [] = ocF f [] []
 sem : ∀ N M T V, 1 ≤ N → sem N M g T V = sem N M f T V
 pr : prB g = true
theorem Pq_len : ∀ (l : List Qu), (∀ q ∈ l, Pq q) → l.length ≤ (qvs l).length
 | [], _ => by simp
 | q :: l, h => by
  have h1 := Pq_len l fun p hp => h p (List.mem_cons_of_mem _ hp)
  have h2 := (h q (List.mem_cons_self ..)).2.1
  have : qvs (q :: l) = q.2 ++ qvs l := rfl
  rw [this, lA, List.length_cons]; omega
theorem prG_facts (f : GFml) (ho : f.Ok) (hn : ndF f ≤ 2000) (hs : shsF f = true) (hp : plF f = true) : PrG f (prG f) := by
 have A := prA_facts f ho hn hs hp
 unfold prG
 generalize prA f = a at *
 obtain ⟨x1, x2, x3, x4, x5, x6, x7⟩ := px_all a A.sh A.pl A.n1
 have hv : qvs (mgL (pxF a).1) = bdF a := by rw [← x1]; exact mgF_vs (pxF a).1 []
 have hq : ∀ q ∈ mgL (pxF a).1, Pq q := mgF_Pq _ [] (by intro q hq; cases hq) x2
 have hl : (mgL (pxF a).1).length ≤ (pxF a).1.length := by have := mgF_len (pxF a).1 []; rw [List.length_nil, Nat.zero_add] at this; exact this
 have hl2 := Pq_len _ hq
 obtain ⟨w1, w2⟩ := wrap_nd (mgL (pxF a).1) (pxF a).2
 have hbd := A.bd
 have hnd := A.nd
 have hdp := A.dp
 rw [hv] at hl2
 have hoc : ∀ g : GFml, plF g = true → ocF g [] [] = atF g := fun g hg => by rw [(pl_all g hg).1]; rfl
 have hpl := wrap_pl _ (pxF a).2 hq x6
 refine ⟨wrap_ok _ _ hq (px_ok a A.ok), wrap_sh _ _ hq (by rw [hv]; exact A.nodup) (px_sh a A.sh), hpl, by omega, by omega, fun s h => ?_, ?_, fun N M T V hN => ?_, wrap_pr _ _ hq x7⟩
 ·obtain ⟨h1, h2⟩ := wrap_fv _ _ s h
  rw [hv] at h2
  rcases px_fv a s A.sh h1 with h | h
  ·exact (A.fv s h).1
  ·exact absurd h h2
 ·rw [hoc _ hpl, wrap_at _ _ hq, x5, ← hoc a A.pl]; exact A.oc
 ·rw [wrap_sem N M _ _ T hq, mg_sem hN, px_sem N M hN a T V A.sh A.nodup fun s h => (A.fv s h).2]
  exact A.sem N M T V
theorem prG_valid (f : GFml) (ho : f.Ok) (hn : ndF f ≤ 2000) (hv : validF f = true) (hp : plF f = true) (hd : dpF (prG f) ≤ 60) : validF (prG f) = true := by
 have G := prG_facts f ho hn (validF_shs hv) hp
 have hgn := G.nd
 have c2 := ct_dp (prG f) 61
 have e2 := c2.2 (by omega)
 unfold validF at hv ⊢
 simp only [bA, dT] at hv ⊢
 obtain ⟨g1, g2, g3⟩ := pl_all _ G.pl
 refine ⟨⟨⟨⟨⟨by omega, by omega⟩, G.sh⟩, g2⟩, g3⟩, ?_⟩
 rw [G.oc]; exact hv.2
def quA (q : Qu) : AV := .st [.int .i64 q.1, strs q.2]
mutual
theorem px_len : ∀ f : GFml, (pxF f).1.length ≤ ndF f
 | ⟨k, ar, nm, vars, args, kids⟩ => by
  rw [pxF, ndF]
  have h1 := px_lenH kids
  have h2 := px_lenL kids
  cases (k == 6 || k == 7) with
  | true => simp only [cond_true, List.length_cons]; omega
  | false =>
   cases (k == 4 || k == 5) with
   | true => simp only [cond_true, cond_false]; omega
   | false => simp only [cond_false, List.length_nil]; omega
theorem px_lenH : ∀ l : List GFml, (pxH l).1.length ≤ ndFs l
 | [] => by rw [pxH, ndFs]; simp
 | x :: l => by have := px_len x; rw [pxH, ndFs]; omega
theorem px_lenL : ∀ l : List GFml, (pxL l).1.length ≤ ndFs l
 | [] => by rw [pxL, ndFs]; simp
 | x :: l => by
  have h1 := px_len x
  have h2 := px_lenL l
  rw [pxL, ndFs]
  show ((pxF x).1 ++ (pxL l).1).length ≤ _
  rw [lA]; omega
end
theorem rel_snoc {S : Rg} {w : World} {a b : AV} (hab : ∀ cs, RelC S w a cs → RelC S w b cs) : ∀ (xs : List AV) (cs : List Value), RelCs S w (xs ++ [a]) cs → RelCs S w (xs ++ [b]) cs
 | [], cs, h => by
  simp only [List.nil_append, RelCs] at h ⊢
  obtain ⟨c1, c2, e, h1, h2⟩ := h
  exact ⟨c1, c2, e, hab _ h1, h2⟩
 | x :: xs, cs, h => by
  simp only [List.cons_append, RelCs] at h ⊢
  obtain ⟨c1, c2, e, h1, h2⟩ := h
  exact ⟨c1, c2, e, h1, rel_snoc hab xs c2 h2⟩
theorem rel_kids {S : Rg} {w : World} {a b c d e x y : AV} {cs : List Value} (h : RelC S w (.st [a, b, c, d, e, x]) cs) (hab : ∀ cs, RelC S w x cs → RelC S w y cs) : RelC S w (.st [a, b, c, d, e, y]) cs := by
 simp only [RelC] at h ⊢
 exact rel_snoc hab [a, b, c, d, e] cs h
theorem n_prenex : ∀ (N : Nat) (f : GFml) (hN : ndF f ≤ N) (ho : f.Ok) (hs : shsF f = true) (hn : ndF f ≤ 1000000),
  Tri Tryz.prog 71 [f.st] [] (D (.tup [.sl ((pxF f).1.map quA), (pxF f).2.st]) []) := by
 intro N
 induction N using Nat.strongRecOn with
 | _ N ih =>
 intro f hN ho hs hn
 have hlen := px_len f
 obtain ⟨_, h6, h7⟩ := ho
 obtain ⟨k, ar, nm, vars, args, kids⟩ := f
 simp only at h6 h7
 have hnd : ndFs kids < N := by rw [ndF] at hN; omega
 rw [ndF] at hn
 rw [shsF, bA] at hs
 rw [pxF] at hlen ⊢
 cases h67 : (k == 6 || k == 7) with
 | true =>
  rw [h67, cond_true] at hlen
  rw [cond_true]
  have hk : k = 6 ∨ k = 7 := by simpa using h67
  have hl := shaped_q1 hs.2 (by simp only; omega)
  simp only at hl
  match kids, hl, hs, h7, hnd, hn, hlen with
  | [x], _, hs, h7, hnd, hn, hlen =>
  have hx1 := hs.1
  rw [shsFs, bA] at hx1
  have hr := ih (ndFs [x]) hnd x (by rw [ndFs, ndFs]; omega) (h7 x (by simp)) hx1.1 (by rw [ndFs, ndFs] at hn; omega)
  rw [pxH] at hlen ⊢
  generalize pxF x = r at *
  obtain ⟨l, m⟩ := r
  obtain ⟨mk, ma, mn, mv, mg, mks⟩ := m
  simp only at hlen hr ⊢
  have hqs : ∀ y ∈ l.map quA, y.size = 2 := P_map fun _ => rfl
  have hqo : ∀ y ∈ l.map quA, y.cellOK = true := P_map fun _ => rfl
  have hql : (l.map quA).length ≤ 1000001 := by rw [lM]; rw [List.length_cons, ndF] at hlen; omega
  have hx' : ([x].map GFml.av)[(0 : Int).toNat]? = some x.st := by rw [← GFml.av_eq]; rfl
  rcases hk with rfl | rfl
  all_goals
   refine Tri.enter 65 Tryz.func71 rfl rfl rfl rfl fun Fr w0 => ?_
   repeat' (first | (refine AW.r 0 ?_; refine AL.d (AOp.box_ro rfl rfl) ?_; refine AL.es 1 ?_; refine AL.alloc_z (t := 25) zF (by kernel_rfl) rfl rfl fun r3 => ?_; refine AL.nil ?_) | (refine AW.r 1 ?_; refine AL.d AOp.fa ?_; refine AL.d AOp.la ?_; refine AL.nil ?_) | refine AW.re 2 2 ?_ | refine AW.re 3 2 ?_ | refine AW.jt ?_ | refine AW.jf ?_ | refine AW.go ?_ | fail)
   repeat' (first | (refine AW.r 4 ?_; refine AL.d AOp.fa ?_; refine AL.d AOp.la ?_; refine AL.d (iX hx') ?_; refine AL.d AOp.la ?_; refine AL.d (AOp.call rfl rfl (hr.pure _)) ?_; refine AL.es 3 ?_; refine AL.alloc_z (t := 25) zF (by kernel_rfl) rfl rfl fun r5 => ?_; refine AL.es 1 ?_; refine AL.sl 0 ?_; refine AL.nil ?_) | refine AW.go ?_ | fail)
   repeat' (first | fail)
   refine AW.explore [false, true] [5, 7, 9, 10] rfl (by kernel_rfl) (by kernel_rfl) (by kernel_rfl) (by kernel_rfl) ?_
   first | refine AQE.op rfl AOp.fa rfl rfl ?_ | refine AQE.op rfl (AOp.fr 0) rfl rfl ?_
   refine AQE.op rfl (AOp.la) rfl rfl ?_
   first | refine AQE.op rfl AOp.fa rfl rfl ?_ | refine AQE.op rfl (AOp.fr 3) rfl rfl ?_
   refine AQE.op rfl (AOp.la) rfl rfl ?_
   refine AQE.op rfl (AOp.build (pl := [(0, 1), (1, 1)]) (z := .st [.int .i64 0, nilS]) (by kernel_rfl) rfl rfl rfl) rfl rfl ?_
   refine AQE.hole rfl rfl ?_
   refine AQE.ev rfl rfl rfl rfl ?_
   refine AQE.hole rfl rfl ?_
   refine AQE.op rfl (AOp.lw 0) rfl rfl ?_
   refine AQE.hole rfl rfl ?_
   refine AQE.hole rfl rfl ?_
   refine AQE.nil ?_
   repeat' (first | refine AX.one (n := 3) 5 rfl ?_ | refine AX.one (n := 2) 7 rfl ?_ | refine AX.one (n := 1) 9 rfl ?_ | refine AX.one (n := 0) 10 rfl ?_ | (refine AXS.at (q := 5) rfl rfl ?_; refine AXO.lit_own (e := 106) (sz := 2) (by kernel_rfl) rfl rfl rfl (P_one rfl) (by decide) fun b0 => ?_; dsimp only [sA, sB, sC, sD]) | (refine AXS.at (q := 7) rfl rfl ?_; refine AXO.append (i := 0) (e := 106) (sz := 2) (bytes := 32) rfl rfl rfl rfl (by kernel_rfl) (by kernel_rfl) (P_one rfl) hqs (ok_all hqo) (by simp only [List.length_singleton]; omega) (by simp only [List.length_singleton]; omega) rfl fun b' c' => ?_; dsimp only [sA, sB, sC, sD]) | (refine AXS.det (i := 9) rfl rfl rfl (AOp.ev rfl) ?_; dsimp only [sA, sB, sC, sD]) | (refine AXS.at (q := 10) rfl rfl ?_; refine AXO.sl 1 (fun _ => ?_); dsimp only [sA, sB, sC, sD]) | fail)
   all_goals refine AX.done_keep [2,3] ?_
   repeat' (first | fail)
   refine AW.as_sl 2 rfl ?_
   exact AW.retc (.tmp rfl (.cell 1 rfl rfl (by kernel_rfl) .nil)) (List.nil_sublist _) ⟨rfl, rfl⟩
 | false =>
  rw [cond_false]
  cases h45 : (k == 4 || k == 5) with
  | true =>
   have hk : k = 4 ∨ k = 5 := by simpa using h45
   have hpl := px_lenL kids
   obtain ⟨rfl, rfl, rfl, rfl⟩ := shaped_45 hs.2 hk
   rw [cond_true]
   have hle : (pxL kids).2.length = kids.length := pxL_len kids
   have hkl := ndFs_len kids
   generalize hP : pxL kids = P at *
   obtain ⟨PQ, PM⟩ := P
   simp only at hpl hle ⊢
   clear hlen
   refine Tri.enter 65 Tryz.func71 rfl rfl rfl rfl fun Fr w0 => ?_
   repeat' (first | (refine AW.r 0 ?_; (refine AL.d (AOp.box_ro (v := .st [.int .i64 k, .int .i64 0, .str empB, strs [], strs [], .sl (kids.map GFml.av)]) rfl rfl) ?_) <;> refine AL.es 1 ?_ <;> refine AL.alloc_z (t := 25) zF (by kernel_rfl) rfl rfl fun r3 => ?_ <;> refine AL.nil ?_) | refine AW.go ?_ | fail)
   repeat' (first | (refine AW.r 1 ?_; refine AL.d AOp.fa ?_; refine AL.d AOp.la ?_; refine AL.nil ?_) | (refine xS 2 1 ?_; refine AL.e ?_; refine AL.nil ?_) | (refine xS 3 1 ?_; refine AL.e ?_; refine AL.nil ?_) | (refine xS 6 1 ?_; refine AL.e ?_; refine AL.nil ?_) | (refine xS 7 1 ?_; refine AL.e ?_; refine AL.nil ?_) | (refine AW.r 8 ?_; refine AL.d AOp.assign_nil ?_; refine AL.nil ?_) | (refine AW.r 9 ?_; refine AL.d AOp.fa ?_; refine AL.d AOp.la ?_; (refine AL.d (AOp.build (pl := [(0, 1), (1, 1), (2, 1), (3, 1), (4, 1), (5, 1)]) (z := .st [.int .i64 0, .int .i64 0, .str empB, .sl [], .sl [], nilS]) (by kernel_rfl) rfl rfl rfl) ?_) <;> (refine AL.alloc_z (t := 25) zF (by kernel_rfl) rfl rfl fun r7 => ?_) <;> (refine AL.sl 0 ?_) <;> refine AL.nil ?_) | refine AW.jj (fun hb => ?_) (fun hb => ?_) | refine AW.go ?_ | fail)
   all_goals try (exfalso; simp only [beq_iff_eq, beq_eq_false_iff_ne] at *; omega)
   all_goals refine AW.recast 0 (c' := .st [.int .i64 k, .int .i64 0, .str empB, .sl [], .sl [], .slt [] none 0]) rfl (fun S w cs h => rel_kids h fun cs h => nil_slt _ _ _ h) ?_
   all_goals refine AW.own_nil 6 ?_
   all_goals refine AW.own_nil 2 ?_
   all_goals
    repeat' (first | refine AW.re 10 4 ?_ | refine AW.go ?_ | fail)
    refine AW.prune [1, 3, 6, 7, 41, 42, 43] (AW.loop (fun mz af h => ∃ (i : Nat) (pre : List Qu) (ms : List GFml) (ta : Option Nat) (ca : Nat) (tk : Option Nat) (ck : Nat), i ≤ kids.length ∧ mz = kids.length - i ∧ af = [(1, .at (.st [.int .i64 k, .int .i64 0, .str empB, strs [], strs [], .sl (kids.map GFml.av)])), (3, .ref r3 0), (6, .slt (pre.map quA) ta ca), (7, .ref r7 0), (41, .sl (kids.map GFml.av)), (42, .int .i64 (kids.map GFml.av).length), (43, .int .i64 i)] ∧ h = [.tail ta (pre.map quA).length ca 2, .tail tk (ms.map GFml.av).length ck 6, .box r7 (.st [.int .i64 k, .int .i64 0, .str empB, .sl [], .sl [], .slt (ms.map GFml.av) tk ck]), .box r3 zF] ∧ (pre ++ (pxL (kids.drop i)).1 = PQ ∧ ms ++ (pxL (kids.drop i)).2 = PM ∧ ms.length = i)) kids.length ⟨0, [], [], none, 0, none, 0, Nat.zero_le _, rfl, rfl, rfl, ⟨by rw [List.drop_zero, hP]; rfl, by rw [List.drop_zero, hP]; rfl, rfl⟩⟩ ?_)
    rintro mz af h ⟨i, pre, ms, ta, ca, tk, ck, hi, rfl, rfl, rfl, he⟩
    refine AW.seq ?_
    by_cases hlt : i < kids.length
    ·obtain ⟨he1, he2, hml⟩ := he
     obtain ⟨x, hx⟩ := get_lt hlt
     have hxm := lG hx
     have hx' : (kids.map GFml.av)[((i : Nat) : Int).toNat]? = some x.st := GFml.get hx
     have hxn := ndFs_mem hxm
     have hr := ih (ndFs kids) hnd x hxn (h7 x hxm) (shsFs_mem hs.1 hxm) (by omega)
     rw [drop_cons hx, pxL] at he1 he2
     generalize pxF x = r at *
     obtain ⟨l, m⟩ := r
     simp only at he1 he2 hr
     have hpl2 : pre.length + l.length ≤ 1000000 := by
      have := congrArg List.length he1
      simp only [lA] at this
      omega
     repeat' (first | refine AW.re 11 1 ?_ | refine AW.jj (fun hb => ?_) (fun hb => ?_) | refine AW.go ?_ | fail)
     all_goals try (exfalso; simp only [dT, dF, lM] at *; omega)
     repeat' (first | (refine AW.r 12 ?_; refine AL.d (iX hx') ?_; refine AL.d AOp.la ?_; refine AL.alloc_z (t := 25) zF (by kernel_rfl) rfl rfl fun r9 => ?_; refine AL.sl 0 ?_; refine AL.nil ?_) | (refine AW.r 13 ?_; refine AL.d (AOp.lw 0) ?_; refine AL.d (AOp.call rfl rfl (hr.pure _)) ?_; refine AL.es 3 ?_; refine AL.alloc_z (t := 25) zF (by kernel_rfl) rfl rfl fun r9 => ?_; refine AL.es 1 ?_; refine AL.sl 0 ?_; refine AL.nil ?_) | refine AW.go ?_ | fail)
     repeat' (first | (refine xS 14 2 ?_; ((refine AL.append (i := 2) (e := 106) (sz := 2) (bytes := 32) rfl rfl rfl rfl (by kernel_rfl) (by kernel_rfl) (P_map fun _ => rfl) (P_map fun _ => rfl) (ok_all (P_map fun _ => rfl)) (by simp only [lM]; omega) (by simp only [lM]; omega) rfl fun b1 c1 => ?_)) <;> refine AL.es 1 ?_ <;> refine AL.nil ?_) | (refine AW.r 15 ?_; refine AL.d (AOp.fr 5) ?_; refine AL.d (AOp.ll 4) ?_; refine AL.d (AOp.lw 0) ?_; refine AL.d (AOp.lit (e := 25) (sz := 6) (by kernel_rfl) rfl rfl rfl (P_one rfl) (by decide)) ?_; ((refine AL.append (i := 3) (e := 25) (sz := 6) (bytes := 104) rfl rfl rfl rfl (by kernel_rfl) (by kernel_rfl) (P_map GFml.size_av) (P_one rfl) rfl (by simp only [lM, List.length_singleton]; omega) (by simp only [lM, List.length_singleton]; omega) rfl fun b2 c2 => ?_)) <;> (refine AL.d (AOp.fr 5) ?_) <;> (refine AL.sl 4 ?_) <;> refine AL.nil ?_) | (refine AW.r 16 ?_; refine AL.d AOp.ad ?_; refine xN 1 ?_) | fail)
     refine AW.drop (ah' := [.tail b1 ((pre ++ l).map quA).length c1 2, .tail b2 ((ms ++ [m]).map GFml.av).length c2 6, .box r7 (.st [.int .i64 k, .int .i64 0, .str empB, .sl [], .sl [], .slt ((ms ++ [m]).map GFml.av) b2 c2]), .box r3 zF]) (by rw [List.map_append, List.map_append, List.map_cons, List.map_nil, GFml.av_eq]; exact .cons _ (.cons _ (List.Sublist.refl _))) ?_
     refine AW.again_keep (kids.length - (i + 1)) [1, 3, 6, 7, 41, 42, 43] (by omega) ⟨i + 1, pre ++ l, ms ++ [m], b1, c1, b2, c2, hlt, rfl, ?_, rfl, by rw [List.append_assoc]; exact he1, by rw [List.append_assoc]; exact he2, by rw [lA, hml]; rfl⟩
     rw [List.map_append]
     rfl
    ·obtain ⟨he1, he2, hml⟩ := he
     rw [List.drop_eq_nil_of_le (by omega), pxL] at he1 he2
     simp only [List.append_nil] at he1 he2
     subst he1 he2
     repeat' (first | refine AW.re 11 1 ?_ | refine AW.jj (fun hb => ?_) (fun hb => ?_) | refine AW.go ?_ | fail)
     all_goals try (exfalso; simp only [dT, dF, lM] at *; omega)
     refine AW.recast 2 (c' := .st [.int .i64 k, .int .i64 0, .str empB, .sl [], .sl [], .sl (ms.map GFml.av)]) rfl (fun S w cs h => rel_kids h fun cs h => slt_sl _ _ _ h) ?_
     refine AW.as_sl 6 rfl ?_
     refine AW.drop (ah' := [.box r7 (.st [.int .i64 k, .int .i64 0, .str empB, .sl [], .sl [], .sl (ms.map GFml.av)]), .box r3 zF]) (.cons _ (.cons _ (List.Sublist.refl _))) ?_
     repeat' (first | fail)
     refine AW.explore [false, true] [3] rfl (by kernel_rfl) (by kernel_rfl) (by kernel_rfl) (by kernel_rfl) ?_
     refine AQE.ev rfl rfl rfl rfl ?_
     refine AQE.op rfl (AOp.lw 0) rfl rfl ?_
     refine AQE.ev rfl rfl rfl rfl ?_
     refine AQE.hole rfl rfl ?_
     refine AQE.nil ?_
     repeat' (first | refine AX.one (n := 0) 3 rfl ?_ | (refine AXS.at (q := 3) rfl rfl ?_; refine AXO.sl 0 (fun _ => ?_); dsimp only [sA, sB, sC, sD]) | fail)
     all_goals refine AX.done_keep [2,3] ?_
     repeat' (first | fail)
     exact AW.retc (.tmp rfl (.cell 0 rfl rfl (by kernel_rfl) .nil)) (List.nil_sublist _) ⟨rfl, rfl⟩
  | false =>
   rw [cond_false]
   have hk : k ≠ 6 ∧ k ≠ 7 ∧ k ≠ 4 ∧ k ≠ 5 := by simp only [Bool.or_eq_false_iff, beq_eq_false_iff_ne] at h67 h45; omega
   refine Tri.enter 65 Tryz.func71 rfl rfl rfl rfl fun Fr w0 => ?_
   repeat' (first | (refine AW.r 0 ?_; (refine AL.d (AOp.box_ro (v := .st [.int .i64 k, .int .i64 ar, .str nm, strs vars, strs args, .sl (kids.map GFml.av)]) rfl rfl) ?_) <;> refine AL.es 1 ?_ <;> refine AL.alloc_z (t := 25) zF (by kernel_rfl) rfl rfl fun r3 => ?_ <;> refine AL.nil ?_) | (refine AW.r 1 ?_; refine AL.d AOp.fa ?_; refine AL.d AOp.la ?_; refine AL.nil ?_) | refine AW.re 2 2 ?_ | refine AW.re 3 2 ?_ | refine AW.re 6 2 ?_ | refine AW.re 7 2 ?_ | (refine AW.dl 18 2 ?_; refine AQ.p rfl AOp.la ?_; refine AQ.es 1 ?_; refine AQ.nil ?_; refine AL.sl 0 ?_; refine AL.nil ?_) | refine AW.jj (fun hb => ?_) (fun hb => ?_) | refine AW.go ?_ | fail)
   all_goals try (exfalso; simp only [beq_iff_eq, beq_eq_false_iff_ne] at *; omega)
   exact AW.retc (.tmp rfl (.cell 0 rfl rfl (by kernel_rfl) .nil)) (List.nil_sublist _) ⟨rfl, rfl⟩
theorem slices_Grow (n : Nat) (h0 : 0 < n) (hn : n ≤ 1000000) : Tri Tryz.prog 158 [nilS, .int .i64 n] [] (fun x h => ∃ b k, n ≤ k ∧ x = .ret (.osl b 0 k) ∧ h = [.row b (List.replicate k (.str empB))]) := by
 refine Tri.enter 27 Tryz.func158 rfl rfl rfl rfl fun Fr w0 => ?_
 repeat' (first | refine AW.re 0 1 ?_ | refine AW.re 1 2 ?_ | refine AW.jf ?_ | refine AW.go ?_ | fail)
 all_goals try (exfalso; simp only [dT, dF] at *; omega)
 repeat' (first | (refine xS 3 2 ?_; refine AL.d (AOp.cap_nil (by kernel_rfl) rfl) ?_; refine AL.es 1 ?_; refine AL.d (AOp.len_nil (by kernel_rfl) rfl) ?_; refine AL.d AOp.sb ?_; refine AL.d AOp.sb ?_; refine xN 1 ?_) | refine AW.re 4 2 ?_ | refine AW.jj (fun hb => ?_) (fun hb => ?_) | refine AW.go ?_ | fail)
 ·have hnx : (some (AV.int .i64 ((n : Int) - (0 - 0)))) = some (AV.int .i64 (n : Nat)) := by rw [Int.sub_zero, Int.sub_zero]
  refine AW.region_at 5 ?_
  refine AL.ev rfl rfl rfl rfl ?_
  refine AL.ev rfl rfl rfl rfl ?_
  refine AL.det (AOp.cap_nil (by kernel_rfl) rfl) rfl rfl rfl ?_
  refine AL.det (AOp.cut_nil (sz := 1) (by kernel_rfl) rfl bndIs.none (bndIs.some (i := 0) rfl rfl)) rfl rfl rfl ?_
  refine AL.ev rfl rfl rfl rfl ?_
  refine AL.append_zeros (n := n) (e := 9) (c := .string empB) (z := .str empB) (bytes := 16) rfl hnx h0 (by kernel_rfl) (by kernel_rfl) rfl (by omega) (by omega) rfl fun b k hk => ?_
  refine AL.ev rfl rfl rfl rfl ?_
  refine AL.det (AOp.len_nil (by kernel_rfl) rfl) rfl rfl rfl ?_
  refine AL.det (AOp.cut_osl (sz := 1) (h := 0) (by kernel_rfl) rfl (bndIs.some (i := 0) rfl rfl) (Nat.zero_le _)) rfl rfl rfl ?_
  refine AL.ev rfl rfl rfl rfl ?_
  refine AL.nil ?_
  repeat' (first | refine AW.re 6 2 ?_ | fail)
  first
   | exact AW.retv rfl ⟨b, k, hk, rfl, rfl⟩
   | exact AW.donev rfl ⟨b, k, hk, rfl, rfl⟩
 ·exfalso; simp only [dF] at hb; omega
theorem flat_take {α : Type} {ls : List (List α)} {i : Nat} {x : List α} (h : ls[i]? = some x) : (ls.take (i + 1)).flatten = (ls.take i).flatten ++ x := by
 rw [List.take_add_one, h]; simp
theorem flat_le {α : Type} (ls : List (List α)) (i : Nat) : (ls.take i).flatten.length ≤ ls.flatten.length := by
 have h : ls.flatten = (ls.take i).flatten ++ (ls.drop i).flatten := by rw [← List.flatten_append, List.take_append_drop]
 rw [h, lA]; omega
theorem slices_Concat (ls : List (List ByteArray)) (hl : ls.length ≤ 4611686018427387904) (h0 : 0 < ls.flatten.length) (hn : ls.flatten.length ≤ 1000000) : Tri Tryz.prog 124 [.sl (ls.map strs)] [] (D (strs ls.flatten) []) := by
 have hG := slices_Grow ls.flatten.length h0 hn
 refine Tri.enter 36 Tryz.func124 rfl rfl rfl rfl fun Fr w0 => ?_
 repeat' (first | refine AW.re 0 1 ?_ | refine AW.re 1 1 ?_ | refine AW.re 2 3 ?_ | refine AW.go ?_ | fail)
 refine AW.prune [0, 3, 9, 10, 11] (AW.loop (fun m af h => ∃ i : Nat, i ≤ ls.length ∧ m = ls.length - i ∧ af = [(0, .sl (ls.map strs)), (3, .int .i64 ((ls.take i).flatten.length : Nat)), (9, .sl (ls.map strs)), (10, .int .i64 (ls.map strs).length), (11, .int .i64 i)] ∧ h = []) ls.length ⟨0, Nat.zero_le _, rfl, rfl, rfl⟩ ?_)
 rintro m af h ⟨i, hi, rfl, rfl, rfl⟩
 refine AW.seq ?_
 have hfl := flat_le ls i
 by_cases hlt : i < ls.length
 ·obtain ⟨x, hx⟩ := get_lt hlt
  have hx' : (ls.map strs)[((i : Nat) : Int).toNat]? = some (strs x) := map_get hx
  have hf := flat_take hx
  have hfl2 := flat_le ls (i + 1)
  have hlx : ((x.map AV.str).length : Int) = x.length := by simp
  rw [hf, lA] at hfl2
  repeat' (first | refine AW.re 3 1 ?_ | (refine AW.r 4 ?_; refine AL.d (iX hx') ?_; refine xN 2 ?_) | (refine xS 5 3 ?_; refine AL.d AOp.ad ?_; refine xN 1 ?_) | refine AW.re 6 2 ?_ | (refine AW.r 8 ?_; refine AL.d AOp.ad ?_; refine xN 1 ?_) | refine AW.jf ?_ | refine AW.jj (fun hb => ?_) (fun hb => ?_) | refine AW.go ?_ | fail)
  all_goals first
   | (exfalso; simp only [dT, dF, lM] at *; omega)
   | (refine AW.again_keep (ls.length - (i + 1)) [0, 3, 9, 10, 11] (by omega) ⟨i + 1, hlt, rfl, ?_, rfl⟩; rw [hf, lA]; show [_, (3, AV.int .i64 (((ls.take i).flatten.length : Int) + ((x.map AV.str).length : Int))), _, _, _] = _; rw [hlx]; rfl)
 ·have hi2 : i = ls.length := by omega
  subst hi2
  rw [List.take_length]
  repeat' (first | refine AW.re 3 1 ?_ | refine AW.jj (fun hb => ?_) (fun hb => ?_) | refine AW.go ?_ | fail)
  all_goals try (exfalso; simp only [dT, dF, lM] at *; omega)
  refine AW.region_at 9 ?_
  refine AL.ev rfl rfl rfl rfl ?_
  refine AL.step rfl rfl (AOp.callV (args := [nilS, .int .i64 (ls.flatten.length : Nat)]) rfl (fun S w a hfr => ?_) hG) ?_ ?_
  ·have h2 := aeval_rel hfr (x := .tmp 23) rfl
   simp only [RelVs]
   exact ⟨_, _, rfl, by simp [nilS, RelC, Act.eval], by simp [nilS, Shape, Act.eval], _, _, rfl, h2.1, h2.2, rfl⟩
  ·rintro _ _ ⟨b, k, hk, e, rfl⟩
   injection e with e
   subst e
   refine AL.ev rfl rfl rfl rfl ?_
   refine AL.nil ?_
   repeat' (first | refine AW.re 10 3 ?_ | refine AW.go ?_ | fail)
   refine AW.prune [6, 25, 26, 27] (AW.loop (fun m af h => ∃ i : Nat, i ≤ ls.length ∧ m = ls.length - i ∧ af = [(6, .osl b (ls.take i).flatten.length k), (25, .sl (ls.map strs)), (26, .int .i64 (ls.map strs).length), (27, .int .i64 i)] ∧ h = [.row b (((ls.take i).flatten.map AV.str) ++ List.replicate (k - (ls.take i).flatten.length) (.str empB))]) ls.length ⟨0, Nat.zero_le _, rfl, rfl, rfl⟩ ?_)
   rintro m af h ⟨i, hi, rfl, rfl, rfl⟩
   refine AW.seq ?_
   have hfl := flat_le ls i
   by_cases hlt : i < ls.length
   ·obtain ⟨x, hx⟩ := get_lt hlt
    have hx' : (ls.map strs)[((i : Nat) : Int).toNat]? = some (strs x) := map_get hx
    have hf := flat_take hx
    have hfl2 := flat_le ls (i + 1)
    rw [hf, lA] at hfl2
    repeat' (first | refine AW.re 11 1 ?_ | (refine AW.r 12 ?_; refine AL.d (iX hx') ?_; refine xN 2 ?_) | (refine xS 13 2 ?_; refine AL.d (AOp.append_osl (i := 0) (e := 9) (c0 := .string empB) (bytes := 16) rfl rfl (by rw [lA, lM, List.length_replicate]; omega) rfl rfl (by kernel_rfl) (by kernel_rfl) (all_map fun _ => rfl) (ok_map fun _ => rfl) (by rw [lM]; omega)) ?_ <;> refine AL.es 1 ?_ <;> refine AL.nil ?_) | (refine AW.r 14 ?_; refine AL.d AOp.ad ?_; refine xN 1 ?_) | refine AW.jj (fun hb => ?_) (fun hb => ?_) | refine AW.go ?_ | fail)
    all_goals try (exfalso; simp only [dT, dF, lM] at *; omega)
    refine AW.again_keep (ls.length - (i + 1)) [6, 25, 26, 27] (by omega) ⟨i + 1, hlt, rfl, ?_, ?_⟩
    ·rw [hf, lA]
     show [(6, AV.osl b ((ls.take i).flatten.length + (x.map AV.str).length) k), _, _, _] = _
     rw [lM]; rfl
    ·show [Own.row b (((((ls.take i).flatten.map AV.str) ++ List.replicate (k - (ls.take i).flatten.length) (AV.str empB)).take (ls.take i).flatten.length) ++ (x.map AV.str) ++ ((((ls.take i).flatten.map AV.str) ++ List.replicate (k - (ls.take i).flatten.length) (AV.str empB)).drop ((ls.take i).flatten.length + (x.map AV.str).length)))] = _
     rw [hf]
     congr 2
     have e1 : ((ls.take i).flatten.map AV.str).length = (ls.take i).flatten.length := lM _
     rw [List.take_append_of_le_length (by omega), List.take_of_length_le (by omega), List.map_append, List.append_assoc, List.append_assoc]
     congr 2
     rw [List.drop_append, List.drop_eq_nil_of_le (by rw [lM]; omega), List.nil_append, List.drop_replicate]
     congr 1
     simp only [lA, lM]
     omega
   ·have hi3 : i = ls.length := by omega
    subst hi3
    rw [List.take_length]
    repeat' (first | refine AW.re 11 1 ?_ | refine AW.jj (fun hb => ?_) (fun hb => ?_) | refine AW.go ?_ | fail)
    all_goals try (exfalso; simp only [dT, dF, lM] at *; omega)
    refine AW.freeze_pre 0 6 rfl rfl (by rw [lA, lM, List.length_replicate]; omega) (fun x hx => ?_) ?_
    ·rcases List.mem_append.1 hx with h | h
     ·exact all_map (n := 1) (fun _ => rfl) x h
     ·rw [(List.mem_replicate.1 h).2]; rfl
    repeat' (first | refine AW.re 15 2 ?_ | fail)
    first | refine AW.donev rfl ⟨?_, rfl⟩ | refine AW.retv rfl ⟨?_, rfl⟩
    show AEnd.ret (.sl ((ls.flatten.map AV.str ++ List.replicate (k - ls.flatten.length) (AV.str empB)).take ls.flatten.length)) = _
    rw [List.take_append_of_le_length (by rw [lM]; omega), List.take_of_length_le (by rw [lM]; omega)]
    rfl
  ·rintro _ _ ⟨b, k, hk, e, _⟩; cases e
def qcs (q : Qu) : List AV := [.int .i64 q.1, strs q.2]
def flQ (o : List Qu) : List AV := o.flatMap qcs
theorem flQ_len : ∀ o : List Qu, (flQ o).length = o.length * 2
 | [] => rfl
 | q :: o => by
  have := flQ_len o
  show (qcs q ++ flQ o).length = _
  rw [lA, this, List.length_cons, Nat.succ_mul, Nat.add_comm]; rfl
theorem flQ_app (a b : List Qu) : flQ (a ++ b) = flQ a ++ flQ b := by simp [flQ]
def QR (o : List Qu) (v : AV) (H : AH) : Prop := (o = [] ∧ v = nilS ∧ H = []) ∨ ∃ b c, o ≠ [] ∧ o.length ≤ c ∧ v = .osl b o.length c ∧ H = [.row b (flQ o ++ List.replicate ((c - o.length) * 2) .any)]
theorem n_merged (L : List Qu) (hl : L.length ≤ 1000000) (hP : ∀ q ∈ L, Pq q) : Tri Tryz.prog 73 [.sl (L.map quA)] [] (fun x h => ∃ v, x = .ret v ∧ QR (mgL L) v h) := by
 refine Tri.enter 63 Tryz.func73 rfl rfl rfl rfl fun Fr w0 => ?_
 repeat' (first | refine AW.re 0 1 ?_ | refine AW.go ?_ | fail)
 repeat' (first | fail)
 refine AW.region_at 1 ?_
 refine AL.d AOp.assign_nilS ?_
 refine AL.nil ?_
 repeat' (first | refine AW.re 2 3 ?_ | refine AW.go ?_ | fail)
 refine AW.prune [0, 3, 7, 8, 9] (AW.loop (fun mz af h => ∃ (i : Nat) (o : List Qu) (v : AV) (H : AH), i ≤ L.length ∧ mz = L.length - i ∧ af = [(0, .sl (L.map quA)), (3, v), (7, .sl (L.map quA)), (8, .int .i64 (L.map quA).length), (9, .int .i64 i)] ∧ h = H ∧ (QR o v H ∧ o = (L.take i).foldl mgA [] ∧ o.length ≤ i)) L.length ⟨0, [], nilS, [], Nat.zero_le _, rfl, rfl, rfl, ⟨.inl ⟨rfl, rfl, rfl⟩, rfl, Nat.le_refl _⟩⟩ ?_)
 rintro mz af h ⟨i, o, v, H, hi, rfl, rfl, rfl, he⟩
 refine AW.seq ?_
 by_cases hlt : i < L.length
 all_goals obtain ⟨hR, ho, hol⟩ := he
 ·obtain ⟨x, hx⟩ := get_lt hlt
  have hx' : (L.map quA)[((i : Nat) : Int).toNat]? = some (quA x) := map_get hx
  have htk : (L.take (i + 1)).foldl mgA [] = mgA o x := by rw [List.take_add_one, hx, ho]; simp
  obtain ⟨k, vs⟩ := x
  rcases hR with ⟨rfl, rfl, rfl⟩ | ⟨b, c, hne, hc, rfl, rfl⟩
  ·repeat' (first | refine AW.re 3 1 ?_ | refine AW.jj (fun hb => ?_) (fun hb => ?_) | refine AW.go ?_ | fail)
   all_goals try (exfalso; simp only [dT, dF, lM] at *; omega)
   repeat' (first | (refine AW.r 4 ?_; refine AL.d (iX hx') ?_; refine AL.es 1 ?_; refine AL.alloc_store (by kernel_rfl) rfl rfl rfl rfl ?_; refine AL.nil ?_) | (refine xS 5 1 ?_; refine AL.d (AOp.len_nil (by kernel_rfl) rfl) ?_; refine xN 1 ?_) | refine AW.go ?_ | fail)
   repeat' (first | fail)
   refine AW.explore [] [26] rfl (by kernel_rfl) (by kernel_rfl) (by kernel_rfl) (by kernel_rfl) ?_
   refine AQE.ev rfl rfl rfl rfl ?_
   refine AQE.ev rfl rfl rfl rfl ?_
   refine AQE.ev rfl rfl rfl rfl ?_
   first | refine AQE.ge ?_ | refine AQE.k ?_
   first | refine AQE.ge ?_ | refine AQE.k ?_
   first | refine AQE.ge ?_ | refine AQE.k ?_
   first | refine AQE.gop rfl (AOp.ln) rfl rfl ?_ | refine AQE.skip rfl rfl rfl ?_
   first | first | refine AQE.gop rfl AOp.fa rfl rfl ?_ | refine AQE.skip rfl rfl rfl ?_ | first | refine AQE.gop rfl (AOp.fr 0) rfl rfl ?_ | refine AQE.skip rfl rfl rfl ?_
   first | refine AQE.gop rfl (AOp.ln) rfl rfl ?_ | refine AQE.skip rfl rfl rfl ?_
   first | first | refine AQE.gop rfl AOp.fa rfl rfl ?_ | refine AQE.skip rfl rfl rfl ?_ | first | refine AQE.gop rfl (AOp.fr 0) rfl rfl ?_ | refine AQE.skip rfl rfl rfl ?_
   first | refine AQE.gop rfl (AOp.la) rfl rfl ?_ | refine AQE.skip rfl rfl rfl ?_
   first | refine AQE.ge ?_ | refine AQE.k ?_
   refine AQE.ev rfl rfl rfl rfl ?_
   refine AQE.ev rfl rfl rfl rfl ?_
   first | refine AQE.ge ?_ | refine AQE.k ?_
   first | refine AQE.ge ?_ | refine AQE.k ?_
   first | refine AQE.ge ?_ | refine AQE.k ?_
   first | refine AQE.gop rfl (AOp.ln) rfl rfl ?_ | refine AQE.skip rfl rfl rfl ?_
   first | first | refine AQE.gop rfl AOp.fa rfl rfl ?_ | refine AQE.skip rfl rfl rfl ?_ | first | refine AQE.gop rfl (AOp.fr 1) rfl rfl ?_ | refine AQE.skip rfl rfl rfl ?_
   first | refine AQE.gop rfl (AOp.ln) rfl rfl ?_ | refine AQE.skip rfl rfl rfl ?_
   first | refine AQE.gop rfl (AOp.ln) rfl rfl ?_ | refine AQE.skip rfl rfl rfl ?_
   first | first | refine AQE.gop rfl AOp.fa rfl rfl ?_ | refine AQE.skip rfl rfl rfl ?_ | first | refine AQE.gop rfl (AOp.fr 1) rfl rfl ?_ | refine AQE.skip rfl rfl rfl ?_
   first | refine AQE.gop rfl (AOp.la) rfl rfl ?_ | refine AQE.skip rfl rfl rfl ?_
   first | refine AQE.gop rfl (AOp.ln) rfl rfl ?_ | refine AQE.skip rfl rfl rfl ?_
   first | refine AQE.ge ?_ | refine AQE.k ?_
   first | refine AQE.ge ?_ | refine AQE.k ?_
   refine AQE.hole rfl rfl ?_
   refine AQE.nil ?_
   repeat' (first | refine AX.one (n := 0) 26 rfl ?_ | (refine AXS.det (i := 26) rfl rfl rfl (AOp.ev rfl) ?_; dsimp only [sA, sB, sC, sD]) | fail)
   all_goals refine AX.done_keep [0,3,5,6,7,8,9,41] ?_
   repeat' (first | refine AW.jf ?_ | refine AW.go ?_ | fail)
   repeat' (first | (refine AW.r 8 ?_; refine AL.e ?_; refine AL.d AOp.la ?_; refine AL.d (AOp.lit (e := 106) (sz := 2) (by kernel_rfl) rfl rfl rfl (P_one rfl) (by decide)) ?_; (refine AL.step rfl rfl (AOp.append_own0 (fs := qcs (k, vs)) (e := 106) (sz := 2) (bytes := 32) rfl rfl rfl (by intro y hy; simp [qcs] at hy; rcases hy with rfl | rfl <;> rfl) (by kernel_rfl) (by kernel_rfl) (by decide)) ?_ ?_; rotate_left; rintro _ _ ⟨_, _, _, e, _⟩; cases e; rintro _ _ ⟨b1, c1, hc1, e, rfl⟩; injection e with e; subst e) <;> (refine AL.e ?_) <;> refine AL.nil ?_) | (refine AW.r 9 ?_; refine AL.d AOp.ad ?_; refine AL.e ?_; refine AL.nil ?_) | fail)
   refine AW.again_keep (L.length - (i + 1)) [0, 3, 7, 8, 9] (by omega) ⟨i + 1, [(k, vs)], .osl b1 1 c1, [.row b1 (qcs (k, vs) ++ List.replicate ((c1 - 1) * 2) .any)], hlt, rfl, rfl, rfl, .inr ⟨b1, c1, by simp, hc1, rfl, by simp [flQ]⟩, by rw [htk]; rfl, by simp only [List.length_singleton]; omega⟩
  ·obtain ⟨o', p, rfl⟩ := (snoc_cases o).resolve_left hne
   obtain ⟨pk, pv⟩ := p
   repeat' (first | refine AW.re 3 1 ?_ | refine AW.jj (fun hb => ?_) (fun hb => ?_) | refine AW.go ?_ | fail)
   all_goals try (exfalso; simp only [dT, dF, lM] at *; omega)
   repeat' (first | (refine AW.r 4 ?_; refine AL.d (iX hx') ?_; refine AL.d AOp.la ?_; refine AL.alloc_store (by kernel_rfl) rfl rfl rfl rfl ?_; refine AL.nil ?_) | refine AW.re 5 3 ?_ | refine AW.go ?_ | fail)
   have hn1 : (o' ++ [(pk, pv)]).length = o'.length + 1 := by simp
   have hgt : some (decide ((((o' ++ [(pk, pv)]).length : Nat) : Int) > 0)) = some true := by rw [hn1]; simp
   have hi0 : 0 ≤ (((o' ++ [(pk, pv)]).length : Nat) : Int) - 1 := by rw [hn1]; omega
   have hi1 : (((o' ++ [(pk, pv)]).length : Nat) : Int) - 1 < (((o' ++ [(pk, pv)]).length : Nat) : Int) := by omega
   have hoff : ((((o' ++ [(pk, pv)]).length : Nat) : Int) - 1).toNat * 2 = (flQ o').length := by rw [hn1, flQ_len]; omega
   have hcell : ∀ j, j < 2 → ∀ R : List AV, (flQ (o' ++ [(pk, pv)]) ++ R)[((((o' ++ [(pk, pv)]).length : Nat) : Int) - 1).toNat * 2 + j]? = (qcs (pk, pv))[j]? := by
    intro j hj R
    rw [hoff, flQ_app, List.append_assoc, List.getElem?_append_right (by omega), Nat.add_sub_cancel_left]
    exact List.getElem?_append_left hj
   have hc0 : (flQ (o' ++ [(pk, pv)]) ++ List.replicate ((c - (o' ++ [(pk, pv)]).length) * 2) AV.any)[((((o' ++ [(pk, pv)]).length : Nat) : Int) - 1).toNat * 2 + 0]? = some (.int .i64 pk) := hcell 0 (by omega) _
   have hc1 : (flQ (o' ++ [(pk, pv)]) ++ List.replicate ((c - (o' ++ [(pk, pv)]).length) * 2) AV.any)[((((o' ++ [(pk, pv)]).length : Nat) : Int) - 1).toNat * 2 + 1]? = some (strs pv) := hcell 1 (by omega) _
   obtain ⟨B1, he1⟩ : ∃ B1, some (pk == k) = some B1 := ⟨_, rfl⟩
   obtain ⟨B2, he2⟩ : ∃ B2, some (decide ((((pv.map AV.str).length : Int) + ((vs.map AV.str).length : Int)) ≤ 12)) = some B2 := ⟨_, rfl⟩
   have hPo : Pq (pk, pv) := mgF_Pq (L.take i) [] (by intro p hp; cases hp) (fun p hp => hP p (List.mem_of_mem_take hp)) _ (ho ▸ List.mem_append_right _ (List.mem_singleton_self _))
   have hPx : Pq (k, vs) := hP _ (lG hx)
   have hpv : ((pv.map AV.str).length : Int) ≤ 1000000 ∧ ((vs.map AV.str).length : Int) ≤ 1000000 := by
    have h1 := hPo.2.2.1
    have h2 := hPx.2.2.1
    simp only [lM] at h1 h2 ⊢
    omega
   have hmg := mgA_snoc o' (pk, pv) (k, vs)
   have hfin : (pk == k && decide (pv.length + vs.length ≤ 12)) = (B1 && B2) := by
    rw [Option.some.injEq] at he1 he2
    rw [← he1, ← he2]
    congr 1
    rw [lM, lM]
    exact decide_eq_decide.2 (by omega)
   rw [show ((pk, pv).1 == (k, vs).1 && decide ((pk, pv).2.length + (k, vs).2.length ≤ 12)) = (B1 && B2) from hfin] at hmg
   have happ : o'.length + 1 + 1 ≤ 1000001 := by omega
   cases B1 <;> cases B2
   rotate_left 3
   ·have hC : Tri Tryz.prog 124 [.sl [strs pv, strs vs]] [] (D (strs (pv ++ vs)) []) := by
     have := slices_Concat [pv, vs] (by simp) (by have := hPo.2.1; simp only at this; simp; omega) (by have h1 := hPo.2.2.1; have h2 := hPx.2.2.1; simp only at h1 h2; simp; omega)
     simpa using this
    have hsz2 : ∀ v ∈ [strs pv, strs vs], v.size = 1 := by intro y hy; simp at hy; rcases hy with rfl | rfl <;> rfl
    have hlt1 : ((((o' ++ [(pk, pv)]).length : Nat) : Int) - 1).toNat * 2 + 1 < (flQ (o' ++ [(pk, pv)]) ++ List.replicate ((c - (o' ++ [(pk, pv)]).length) * 2) AV.any).length := (List.getElem?_eq_some_iff.1 hc1).1
    repeat' (first | fail)
    refine AW.explore [] [26] rfl (by kernel_rfl) (by kernel_rfl) (by kernel_rfl) (by kernel_rfl) ?_
    refine AQE.ev rfl rfl rfl rfl ?_
    refine AQE.op rfl (AOp.cmp (b := true) rfl rfl hgt) rfl rfl ?_
    refine AQE.ev rfl rfl rfl rfl ?_
    first | refine AQE.ge ?_ | refine AQE.k ?_
    first | refine AQE.ge ?_ | refine AQE.k ?_
    first | refine AQE.gop rfl (AOp.sub rfl rfl (by omega)) rfl rfl ?_ | refine AQE.skip rfl rfl rfl ?_
    first | refine AQE.gop rfl (AOp.index_own 2 rfl rfl hi0 hi1 (by kernel_rfl)) rfl rfl ?_ | refine AQE.skip rfl rfl rfl ?_
    first | first | refine AQE.gop rfl AOp.fa rfl rfl ?_ | refine AQE.skip rfl rfl rfl ?_ | first | refine AQE.gop rfl (AOp.fr 0) rfl rfl ?_ | refine AQE.skip rfl rfl rfl ?_
    first | refine AQE.gop rfl (AOp.load_cell 0 rfl rfl hc0 rfl (by kernel_rfl)) rfl rfl ?_ | refine AQE.skip rfl rfl rfl ?_
    first | first | refine AQE.gop rfl AOp.fa rfl rfl ?_ | refine AQE.skip rfl rfl rfl ?_ | first | refine AQE.gop rfl (AOp.fr 0) rfl rfl ?_ | refine AQE.skip rfl rfl rfl ?_
    first | refine AQE.gop rfl (AOp.la) rfl rfl ?_ | refine AQE.skip rfl rfl rfl ?_
    first | refine AQE.gop rfl (AOp.cmp rfl rfl he1) rfl rfl ?_ | refine AQE.skip rfl rfl rfl ?_
    refine AQE.ev rfl rfl rfl rfl ?_
    refine AQE.ev rfl rfl rfl rfl ?_
    first | refine AQE.ge ?_ | refine AQE.k ?_
    first | refine AQE.ge ?_ | refine AQE.k ?_
    first | refine AQE.gop rfl (AOp.sub rfl rfl (by omega)) rfl rfl ?_ | refine AQE.skip rfl rfl rfl ?_
    first | refine AQE.gop rfl (AOp.index_own 2 rfl rfl hi0 hi1 (by kernel_rfl)) rfl rfl ?_ | refine AQE.skip rfl rfl rfl ?_
    first | first | refine AQE.gop rfl AOp.fa rfl rfl ?_ | refine AQE.skip rfl rfl rfl ?_ | first | refine AQE.gop rfl (AOp.fr 1) rfl rfl ?_ | refine AQE.skip rfl rfl rfl ?_
    first | refine AQE.gop rfl (AOp.load_cell 0 rfl rfl hc1 rfl (by kernel_rfl)) rfl rfl ?_ | refine AQE.skip rfl rfl rfl ?_
    first | refine AQE.gop rfl (AOp.ln) rfl rfl ?_ | refine AQE.skip rfl rfl rfl ?_
    first | first | refine AQE.gop rfl AOp.fa rfl rfl ?_ | refine AQE.skip rfl rfl rfl ?_ | first | refine AQE.gop rfl (AOp.fr 1) rfl rfl ?_ | refine AQE.skip rfl rfl rfl ?_
    first | refine AQE.gop rfl (AOp.la) rfl rfl ?_ | refine AQE.skip rfl rfl rfl ?_
    first | refine AQE.gop rfl (AOp.ln) rfl rfl ?_ | refine AQE.skip rfl rfl rfl ?_
    first | refine AQE.gop rfl (AOp.add (m := ((pv.map AV.str).length : Int)) (n := ((vs.map AV.str).length : Int)) rfl rfl (by omega)) rfl rfl ?_ | refine AQE.skip rfl rfl rfl ?_
    first | refine AQE.gop rfl (AOp.cmp rfl rfl he2) rfl rfl ?_ | refine AQE.skip rfl rfl rfl ?_
    refine AQE.hole rfl rfl ?_
    refine AQE.nil ?_
    repeat' (first | refine AX.one (n := 0) 26 rfl ?_ | (refine AXS.det (i := 26) rfl rfl rfl (AOp.ev rfl) ?_; dsimp only [sA, sB, sC, sD]) | fail)
    all_goals refine AX.done_keep [0,3,5,6,7,8,9,41] ?_
    repeat' (first | refine AW.jt ?_ | refine AW.go ?_ | fail)
    repeat' (first | fail)
    refine AW.explore [true] [15] rfl (by kernel_rfl) (by kernel_rfl) (by kernel_rfl) (by kernel_rfl) ?_
    refine AQE.ev rfl rfl rfl rfl ?_
    refine AQE.ev rfl rfl rfl rfl ?_
    refine AQE.op rfl (AOp.sub rfl rfl (by omega)) rfl rfl ?_
    refine AQE.ev rfl rfl rfl rfl ?_
    refine AQE.ev rfl rfl rfl rfl ?_
    refine AQE.op rfl (AOp.sub rfl rfl (by omega)) rfl rfl ?_
    refine AQE.op rfl (AOp.index_own 2 rfl rfl hi0 hi1 (by kernel_rfl)) rfl rfl ?_
    first | refine AQE.op rfl AOp.fa rfl rfl ?_ | refine AQE.op rfl (AOp.fr 1) rfl rfl ?_
    refine AQE.pe rfl (AOp.load_cell 0 rfl rfl hc1 rfl (by kernel_rfl)) ?_
    first | refine AQE.op rfl AOp.fa rfl rfl ?_ | refine AQE.op rfl (AOp.fr 1) rfl rfl ?_
    refine AQE.op rfl (AOp.la) rfl rfl ?_
    refine AQE.op rfl (AOp.lit (e := 22) (sz := 1) (by kernel_rfl) rfl rfl rfl hsz2 (by decide)) rfl rfl ?_
    refine AQE.op rfl (AOp.call rfl rfl (hC.pure _)) rfl rfl ?_
    refine AQE.op rfl (AOp.index_own 2 rfl rfl hi0 hi1 (by kernel_rfl)) rfl rfl ?_
    first | refine AQE.op rfl AOp.fa rfl rfl ?_ | refine AQE.op rfl (AOp.fr 1) rfl rfl ?_
    refine AQE.hole rfl rfl ?_
    refine AQE.nil ?_
    repeat' (first | refine AX.one (n := 0) 15 rfl ?_ | (refine AXS.at (q := 15) rfl rfl ?_; refine AXO.store_cell 0 rfl rfl rfl hlt1 rfl rfl (by kernel_rfl) (fun _ => ?_); dsimp only [sA, sB, sC, sD]) | fail)
    all_goals refine AX.done_keep [0,3,7,8,9] ?_
    repeat' (first | (refine AW.r 9 ?_; refine AL.d AOp.ad ?_; refine xN 1 ?_) | fail)
    have hset : (flQ (o' ++ [(pk, pv)]) ++ List.replicate ((c - (o' ++ [(pk, pv)]).length) * 2) AV.any).set (((((o' ++ [(pk, pv)]).length : Nat) : Int) - 1).toNat * 2 + 1) (strs (pv ++ vs)) = flQ (o' ++ [(pk, pv ++ vs)]) ++ List.replicate ((c - (o' ++ [(pk, pv ++ vs)]).length) * 2) AV.any := by
     rw [hoff, flQ_app, flQ_app, List.append_assoc, List.set_append_right _ _ (by omega), Nat.add_sub_cancel_left, List.append_assoc]
     simp only [lA, List.length_singleton]
     rfl
    refine AW.again_keep (L.length - (i + 1)) [0, 3, 7, 8, 9] (by omega) ⟨i + 1, o' ++ [(pk, pv ++ vs)], .osl b (o' ++ [(pk, pv)]).length c, [.row b (flQ (o' ++ [(pk, pv ++ vs)]) ++ List.replicate ((c - (o' ++ [(pk, pv ++ vs)]).length) * 2) .any)], hlt, rfl, rfl, ?_, .inr ⟨b, c, by simp, by simpa using hc, by simp, rfl⟩, by rw [htk, hmg]; rfl, by simp only [lA, List.length_singleton] at hol ⊢; omega⟩
    rw [← hset]
    rfl
   all_goals
    repeat' (first | fail)
    refine AW.explore [] [26] rfl (by kernel_rfl) (by kernel_rfl) (by kernel_rfl) (by kernel_rfl) ?_
    refine AQE.ev rfl rfl rfl rfl ?_
    refine AQE.op rfl (AOp.cmp (b := true) rfl rfl hgt) rfl rfl ?_
    refine AQE.ev rfl rfl rfl rfl ?_
    first | refine AQE.ge ?_ | refine AQE.k ?_
    first | refine AQE.ge ?_ | refine AQE.k ?_
    first | refine AQE.gop rfl (AOp.sub rfl rfl (by omega)) rfl rfl ?_ | refine AQE.skip rfl rfl rfl ?_
    first | refine AQE.gop rfl (AOp.index_own 2 rfl rfl hi0 hi1 (by kernel_rfl)) rfl rfl ?_ | refine AQE.skip rfl rfl rfl ?_
    first | first | refine AQE.gop rfl AOp.fa rfl rfl ?_ | refine AQE.skip rfl rfl rfl ?_ | first | refine AQE.gop rfl (AOp.fr 0) rfl rfl ?_ | refine AQE.skip rfl rfl rfl ?_
    first | refine AQE.gop rfl (AOp.load_cell 0 rfl rfl hc0 rfl (by kernel_rfl)) rfl rfl ?_ | refine AQE.skip rfl rfl rfl ?_
    first | first | refine AQE.gop rfl AOp.fa rfl rfl ?_ | refine AQE.skip rfl rfl rfl ?_ | first | refine AQE.gop rfl (AOp.fr 0) rfl rfl ?_ | refine AQE.skip rfl rfl rfl ?_
    first | refine AQE.gop rfl (AOp.la) rfl rfl ?_ | refine AQE.skip rfl rfl rfl ?_
    first | refine AQE.gop rfl (AOp.cmp rfl rfl he1) rfl rfl ?_ | refine AQE.skip rfl rfl rfl ?_
    refine AQE.ev rfl rfl rfl rfl ?_
    refine AQE.ev rfl rfl rfl rfl ?_
    first | refine AQE.ge ?_ | refine AQE.k ?_
    first | refine AQE.ge ?_ | refine AQE.k ?_
    first | refine AQE.gop rfl (AOp.sub rfl rfl (by omega)) rfl rfl ?_ | refine AQE.skip rfl rfl rfl ?_
    first | refine AQE.gop rfl (AOp.index_own 2 rfl rfl hi0 hi1 (by kernel_rfl)) rfl rfl ?_ | refine AQE.skip rfl rfl rfl ?_
    first | first | refine AQE.gop rfl AOp.fa rfl rfl ?_ | refine AQE.skip rfl rfl rfl ?_ | first | refine AQE.gop rfl (AOp.fr 1) rfl rfl ?_ | refine AQE.skip rfl rfl rfl ?_
    first | refine AQE.gop rfl (AOp.load_cell 0 rfl rfl hc1 rfl (by kernel_rfl)) rfl rfl ?_ | refine AQE.skip rfl rfl rfl ?_
    first | refine AQE.gop rfl (AOp.ln) rfl rfl ?_ | refine AQE.skip rfl rfl rfl ?_
    first | first | refine AQE.gop rfl AOp.fa rfl rfl ?_ | refine AQE.skip rfl rfl rfl ?_ | first | refine AQE.gop rfl (AOp.fr 1) rfl rfl ?_ | refine AQE.skip rfl rfl rfl ?_
    first | refine AQE.gop rfl (AOp.la) rfl rfl ?_ | refine AQE.skip rfl rfl rfl ?_
    first | refine AQE.gop rfl (AOp.ln) rfl rfl ?_ | refine AQE.skip rfl rfl rfl ?_
    first | refine AQE.gop rfl (AOp.add (m := ((pv.map AV.str).length : Int)) (n := ((vs.map AV.str).length : Int)) rfl rfl (by omega)) rfl rfl ?_ | refine AQE.skip rfl rfl rfl ?_
    first | refine AQE.gop rfl (AOp.cmp rfl rfl he2) rfl rfl ?_ | refine AQE.skip rfl rfl rfl ?_
    refine AQE.hole rfl rfl ?_
    refine AQE.nil ?_
    repeat' (first | refine AX.one (n := 0) 26 rfl ?_ | (refine AXS.det (i := 26) rfl rfl rfl (AOp.ev rfl) ?_; dsimp only [sA, sB, sC, sD]) | fail)
    all_goals refine AX.done_keep [0,3,5,6,7,8,9,41] ?_
    repeat' (first | refine AW.jf ?_ | refine AW.go ?_ | fail)
    repeat' (first | (refine AW.r 8 ?_; refine AL.e ?_; refine AL.d AOp.la ?_; refine AL.d (AOp.lit (e := 106) (sz := 2) (by kernel_rfl) rfl rfl rfl (P_one rfl) (by decide)) ?_; (refine AL.step rfl rfl (AOp.append_own (i := 0) (us := flQ (o' ++ [(pk, pv)])) (fs := qcs (k, vs)) (e := 106) (sz := 2) (bytes := 32) rfl rfl (flQ_len _) rfl rfl (by intro y hy; simp [qcs] at hy; rcases hy with rfl | rfl <;> rfl) rfl (by kernel_rfl) (by kernel_rfl) (by omega) (by omega)) ?_ ?_; rotate_left; rintro _ _ ⟨_, _, _, e, _⟩; cases e; rintro _ _ ⟨b1, c1, hc1, e, rfl⟩; injection e with e; subst e) <;> (refine AL.e ?_) <;> refine AL.nil ?_) | (refine AW.r 9 ?_; refine AL.d AOp.ad ?_; refine AL.e ?_; refine AL.nil ?_) | fail)
    refine AW.again_keep (L.length - (i + 1)) [0, 3, 7, 8, 9] (by omega) ⟨i + 1, o' ++ [(pk, pv)] ++ [(k, vs)], .osl b1 ((o' ++ [(pk, pv)]).length + 1) c1, [.row b1 (flQ (o' ++ [(pk, pv)]) ++ qcs (k, vs) ++ List.replicate ((c1 - ((o' ++ [(pk, pv)]).length + 1)) * 2) .any)], hlt, rfl, rfl, rfl, .inr ⟨b1, c1, by simp, by simpa using hc1, by simp, by rw [flQ_app (o' ++ [(pk, pv)]) [(k, vs)]]; simp [flQ]⟩, by rw [htk, hmg]; simp, by simp only [lA, List.length_singleton] at hol ⊢; omega⟩
 ·rw [List.take_of_length_le (by omega)] at ho
  repeat' (first | refine AW.re 3 1 ?_ | refine AW.jj (fun hb => ?_) (fun hb => ?_) | refine AW.go ?_ | fail)
  all_goals try (exfalso; simp only [dT, dF, lM] at *; omega)
  repeat' (first | refine AW.re 10 2 ?_ | fail)
  refine AW.retv rfl ⟨v, rfl, ?_⟩
  rw [show mgL L = o from ho.symm]
  exact hR
theorem back_new (v : AV) (hv : v.isAny = false) : Tri Tryz.prog 72 [v] [] (D (.fn 123 [.at v]) []) := by
 refine Tri.enter 4 Tryz.func72 rfl rfl rfl rfl fun Fr w0 => ?_
 repeat' (first | (refine AW.r 0 ?_; refine AL.d (AOp.box_ro rfl hv) ?_; refine xN 1 ?_) | refine AW.re 1 2 ?_ | fail)
 exact AW.retv rfl ⟨rfl, rfl⟩
theorem back_it (o : List Qu) (b c l : Nat) (tm : List Value) (ix : List Nat) (vs : List AV) (H : Nat → AH) (j : Nat) (R : List AV) (hn : o.length ≤ 1000000)
  (hH : ∀ k, (H k)[j]? = some (.row b (flQ o ++ R)))
  (hY : ∀ (i : Nat) q, o[i]? = some q → TriY Tryz.prog l tm ix vs [.int .i64 i, quA q] (H (i + 1)) (fun x h => x = .ret (.bool true) ∧ h = H i)) :
  Tri Tryz.prog 123 [.yl l tm ix vs, .at (.osl b o.length c)] (H o.length) (fun r h => (∃ v, r = .ret v) ∧ h = H 0) := by
 refine Tri.enter 19 Tryz.func123 rfl rfl rfl rfl fun Fr w0 => ?_
 repeat' (first | (refine xS 0 2 ?_; refine AL.d AOp.sb ?_; refine xN 1 ?_) | refine AW.go ?_ | fail)
 refine AW.prune [0, 1, 3] (AW.loop (fun m af h => ∃ i : Nat, i ≤ o.length ∧ m = i ∧ af = [(0, .yl l tm ix vs), (1, .at (.osl b o.length c)), (3, .int .i64 ((i : Int) - 1))] ∧ h = H i) o.length ⟨o.length, Nat.le_refl _, rfl, rfl, rfl⟩ ?_)
 rintro m af h ⟨i, hi, rfl, rfl, rfl⟩
 refine AW.seq ?_
 cases m with
 | zero =>
  repeat' (first | refine AW.re 1 2 ?_ | refine AW.jf ?_ | refine AW.go ?_ | fail)
  all_goals try (exfalso; simp only [dT, dF] at *; omega)
  exact AW.donev rfl ⟨⟨_, rfl⟩, rfl⟩
 | succ k =>
  obtain ⟨q, hq⟩ := get_lt (show k < o.length by omega)
  have hcell : ∀ t, t < 2 → (flQ o ++ R)[(k : Int).toNat * 2 + t]? = (qcs q)[t]? := by
   intro t ht
   have hsp : o = o.take k ++ q :: o.drop (k + 1) := by rw [← drop_cons hq, List.take_append_drop]
   have hfl : flQ o = flQ (o.take k) ++ (qcs q ++ flQ (o.drop (k + 1))) := by
    rw [hsp, flQ_app]
    have : o.take k ++ q :: o.drop (k + 1) = o := hsp.symm
    rw [this]; rfl
   have hlk : (flQ (o.take k)).length = k * 2 := by rw [flQ_len, List.length_take]; congr 1; omega
   rw [hfl, List.append_assoc, List.append_assoc, List.getElem?_append_right (by rw [hlk]; simp), hlk, Int.toNat_natCast, Nat.add_sub_cancel_left]
   exact List.getElem?_append_left ht
  have hc0 : (flQ o ++ R)[(k : Int).toNat * 2]? = some (.int .i64 q.1) := hcell 0 (by omega)
  have hc1 : (flQ o ++ R)[(k : Int).toNat * 2 + 1]? = some (strs q.2) := hcell 1 (by omega)
  rw [show (((k + 1 : Nat) : Int) - 1) = (k : Int) by omega]
  repeat' (first | refine AW.re 1 2 ?_ | refine AW.jt ?_ | refine AW.go ?_ | fail)
  all_goals try (exfalso; simp only [dT, dF] at *; omega)
  refine AW.region_at 3 ?_
  refine AL.ev rfl rfl rfl rfl ?_
  refine AL.ev rfl rfl rfl rfl ?_
  refine AL.d AOp.la ?_
  refine AL.ev rfl rfl rfl rfl ?_
  refine AL.det (AOp.index_own 2 rfl rfl (by omega) (by omega) (by kernel_rfl)) rfl rfl rfl ?_
  refine AL.det (AOp.load_pair j rfl (hH _) hc0 hc1 (by kernel_rfl) ⟨rfl, rfl⟩) rfl rfl rfl ?_
  refine AL.yield rfl rfl (hY k q hq) rfl ?_ ?_
  ·rintro _ _ ⟨e, _⟩; cases e
  rintro _ _ ⟨e, rfl⟩
  injection e with e
  subst e
  refine AL.ev rfl rfl rfl rfl ?_
  refine AL.nil ?_
  repeat' (first | (refine xS 2 1 ?_; refine AL.d AOp.sb ?_; refine xN 1 ?_) | refine AW.jf ?_ | fail)
  exact AW.again_keep k [0, 1, 3] (by omega) ⟨k, by omega, rfl, rfl, rfl⟩
theorem back_nil (l : Nat) (tm : List Value) (ix : List Nat) (vs : List AV) (ah : AH) :
  Tri Tryz.prog 123 [.yl l tm ix vs, .at nilS] ah (fun r h => (∃ v, r = .ret v) ∧ h = ah) := by
 refine Tri.enter 19 Tryz.func123 rfl rfl rfl rfl fun Fr w0 => ?_
 repeat' (first | (refine xS 0 1 ?_; refine AL.d (AOp.len_nil (by kernel_rfl) rfl) ?_; refine AL.d AOp.sb ?_; refine xN 1 ?_) | refine AW.go ?_ | fail)
 refine AW.prune [0, 1, 3] (AW.loop (fun m af h => m = 0 ∧ af = [(0, .yl l tm ix vs), (1, .at nilS), (3, .int .i64 (0 - 1))] ∧ h = ah) 0 ⟨rfl, rfl, rfl⟩ ?_)
 rintro m af h ⟨rfl, rfl, rfl⟩
 refine AW.seq ?_
 repeat' (first | refine AW.re 1 2 ?_ | refine AW.jf ?_ | refine AW.go ?_ | fail)
 all_goals try (exfalso; simp only [dT, dF] at *; omega)
 exact AW.donev rfl ⟨⟨_, rfl⟩, rfl⟩
theorem perm_last {α : Type} (x : α) (l : List α) : (x :: l).Perm (l ++ [x]) := (List.perm_append_singleton x l).symm
def HH (t l D b r r5 : Nat) (fn : FuncId) (tm : List Value) (ps : Array Tmp) (x y : Code) (lst : List Qu) (RR : List AV) (m : GFml) (k : Nat) : AH :=
 .obj l (.loop (lrec fn tm ps x y D .ready none)) :: dfO D :: [.row b (flQ lst ++ RR), TB t, .box r zF, .box r5 (wrapQ (lst.drop k) m).st]
theorem pre_it (t l D b c r r5 : Nat) (fn : FuncId) (tm : List Value) (ps : Array Tmp) (x y : Code) (lst : List Qu) (RR : List AV) (m : GFml) (hlen : lst.length ≤ 1000000)
  (hY : ∀ (i : Nat) q X Y, lst[i]? = some q → X = HH t l D b r r5 fn tm ps x y lst RR m (i + 1) → Y = HH t l D b r r5 fn tm ps x y lst RR m i → TriY Tryz.prog l tm [5] [.ref r5 0] [.int .i64 i, quA q] X (fun x' h => x' = .ret (.bool true) ∧ h = Y)) :
  Tri Tryz.prog 123 [.yl l tm [5] [.ref r5 0], .at (.osl b lst.length c)] (.obj l (.loop (lrec fn tm ps x y D .ready none)) :: dfO D :: [.row b (flQ lst ++ RR), TB t, .box r zF, .box r5 m.st])
   (fun r' h => (∃ v, r' = .ret v) ∧ ∃ st pe h', h = .obj l (.loop (lrec fn tm ps x y D st pe)) :: dfO D :: h' ∧ ((st = .ready ∧ pe = none ∧ h' = [.row b (flQ lst ++ RR), TB t, .box r zF, .box r5 (wrapQ lst m).st]) ∨ (st = .done ∧ pe = some .ret ∧ False))) := by
 have h := back_it lst b c l tm [5] [.ref r5 0] (HH t l D b r r5 fn tm ps x y lst RR m) 2 RR hlen (fun _ => rfl) (fun i q hq => hY i q _ _ hq rfl rfl)
 rw [show HH t l D b r r5 fn tm ps x y lst RR m lst.length = .obj l (.loop (lrec fn tm ps x y D .ready none)) :: dfO D :: [.row b (flQ lst ++ RR), TB t, .box r zF, .box r5 m.st] by unfold HH; rw [List.drop_length]; rfl] at h
 exact h.mono fun x' a ⟨h1, h2⟩ => ⟨h1, _, _, _, h2, .inl ⟨rfl, rfl, rfl⟩⟩
theorem n_PrenexF (t : TypeId) (f : GFml) (ho : f.Ok) (hn : ndF f ≤ 1000) : Tri Tryz.prog 30 [f.st] [TB t] (D (.tup [(preP f).1.st, .int .i64 (preP f).2]) [TB t]) := by
 have hv := f_Valid f ho
 have hp := n_plain _ f (Nat.le_refl _) ho
 unfold preP
 cases hV : validF f with
 | false =>
  rw [hV] at hv
  obtain ⟨k, ar, nm, vars, args, kids⟩ := f
  refine Tri.enterM 44 Tryz.func30 rfl rfl rfl rfl fun Fr w0 => ?_
  repeat' (first | (refine AW.r 0 ?_; (refine AL.d (AOp.box_ro (v := .st [.int .i64 k, .int .i64 ar, .str nm, strs vars, strs args, .sl (kids.map GFml.av)]) rfl rfl) ?_) <;> refine AL.alloc_z (t := 25) zF (by kernel_rfl) rfl rfl fun r => ?_ <;> refine AL.es 1 ?_ <;> refine AL.nil ?_) | (refine AW.r 1 ?_; refine AL.d AOp.la ?_; refine AL.d (AOp.call rfl rfl (hv.pure _)) ?_; refine xN 2 ?_) | (refine AW.r 2 ?_; refine AL.d (AOp.build (pl := [(0, 1), (1, 1), (2, 1), (3, 1), (4, 1), (5, 1)]) (z := .st [.int .i64 0, .int .i64 0, .str ⟨#[]⟩, .sl [], .sl [], .sl []]) (by kernel_rfl) rfl rfl rfl) ?_ <;> refine AL.sl 0 ?_ <;> refine AL.es 1 ?_ <;> refine AL.nil ?_) | refine AW.jt ?_ | fail)
  exact AW.retM [] (.cell 0 rfl rfl (by kernel_rfl) (.tmp rfl .nil)) (List.sublist_cons_self _ _) ⟨rfl, rfl⟩
 | true =>
  rw [hV] at hv
  rw [cond_true]
  cases hP : plF f with
  | false =>
   rw [hP] at hp
   obtain ⟨k, ar, nm, vars, args, kids⟩ := f
   refine Tri.enterM 44 Tryz.func30 rfl rfl rfl rfl fun Fr w0 => ?_
   repeat' (first | (refine AW.r 0 ?_; (refine AL.d (AOp.box_ro (v := .st [.int .i64 k, .int .i64 ar, .str nm, strs vars, strs args, .sl (kids.map GFml.av)]) rfl rfl) ?_) <;> refine AL.alloc_z (t := 25) zF (by kernel_rfl) rfl rfl fun r => ?_ <;> refine AL.es 1 ?_ <;> refine AL.nil ?_) | (refine AW.r 1 ?_; refine AL.d AOp.la ?_; refine AL.d (AOp.call rfl rfl (hv.pure _)) ?_; refine xN 2 ?_) | (refine AW.r 3 ?_; refine AL.d AOp.la ?_; refine AL.d (AOp.call rfl rfl (hp.pure _)) ?_; refine xN 2 ?_) | (refine AW.r 4 ?_; refine AL.d (AOp.build (pl := [(0, 1), (1, 1), (2, 1), (3, 1), (4, 1), (5, 1)]) (z := .st [.int .i64 0, .int .i64 0, .str ⟨#[]⟩, .sl [], .sl [], .sl []]) (by kernel_rfl) rfl rfl rfl) ?_ <;> refine AL.sl 0 ?_ <;> refine AL.es 1 ?_ <;> refine AL.nil ?_) | refine AW.jt ?_ | refine AW.jf ?_ | fail)
   exact AW.retM [] (.cell 0 rfl rfl (by kernel_rfl) (.tmp rfl .nil)) (List.sublist_cons_self _ _) ⟨rfl, rfl⟩
  | true =>
   rw [hP] at hp
   have hsh := validF_shs hV
   obtain ⟨p1, p2, p3, p4, p5⟩ := nn_pl f false hsh hP
   have l1 := bdF_len f hsh
   have l2 := vrF_len f [] hsh
   rw [List.length_nil, Nat.zero_add] at l2
   have hmul : (bdF (nnF f false)).length * ((vrF f []).length + (bdF (nnF f false)).length + 1) ≤ 48000 * 144001 := Nat.mul_le_mul (by rw [p4]; omega) (by rw [p4]; omega)
   have hT2 : 0 + (bdF (nnF f false)).length * ((vrF f []).length + (bdF (nnF f false)).length + 1) ≤ 9000000000 := by omega
   have hN := n_newNamer [f] (by simp) (by intro x hx; rw [List.mem_singleton.1 hx]; exact ho)
   have hNn := (n_nn _ f (Nat.le_refl _) ho hsh).1
   have PA := prA_facts f ho (by omega) hsh hP
   have PG := prG_facts f ho (by omega) hsh hP
   have hF := n_fit (prG f) PG.ok
   have hX := n_prenex _ (prA f) (Nat.le_refl _) PA.ok PA.sh (by have := PA.nd; omega)
   obtain ⟨x1, x2, x3, x4, x5, x6, x7⟩ := px_all (prA f) PA.sh PA.pl PA.n1
   have hpl := px_len (prA f)
   have hpn := PA.nd
   have hM := n_merged (pxF (prA f)).1 (by omega) x2
   have hA := fun rn mt g r => permPre (Tri.around (n_apart t rn mt _ _ (nnF f false) nilM [] none_ (vrF f []) 0 g (Nat.le_refl _) (nn_ok f false ho) (.inl ⟨rfl, rfl, rfl⟩) (Nat.le_refl _) hT2) [] [.box r zF]) (show List.Perm [Own.map mt (kvW bav (bmap (vrF f []))) g, .box rn (nmAV mt 0), .box r zF, TB t] _ from perm4 _ _ _ _)
   have e1 : [f].map GFml.av = [f.st] := by rw [List.map_cons, List.map_nil, GFml.av_eq]
   have e2 : vrL [f] [] = vrF f [] := by rw [vrL, vrL]
   rw [e1, e2] at hN
   clear l1 l2 hmul hT2 p1 p2 p3 p4 p5
   change ∀ rn mt g r, Tri _ _ _ _ (fun x h => ∃ h1, (x = .ret (prA f).st ∧ ∃ g', h1 = coreH t rn mt _ _ g' ++ []) ∧ h = [] ++ (h1 ++ [Own.box r zF])) at hA
   have hA5 := fun rn mt g r r5 => Tri.around (hA rn mt g r) [] [.box r5 zF]
   rw [cond_true]
   unfold prG at hF PG ⊢
   generalize prA f = A at *
   generalize nnF f false = NF at *
   obtain ⟨k, ar, nm, vars, args, kids⟩ := f
   refine Tri.enterM 44 Tryz.func30 rfl rfl rfl rfl fun Fr w0 => ?_
   repeat' (first | (refine AW.r 0 ?_; (refine AL.d (AOp.box_ro (v := .st [.int .i64 k, .int .i64 ar, .str nm, strs vars, strs args, .sl (kids.map GFml.av)]) rfl rfl) ?_) <;> refine AL.alloc_z (t := 25) zF (by kernel_rfl) rfl rfl fun r => ?_ <;> refine AL.es 1 ?_ <;> refine AL.nil ?_) | (refine AW.r 1 ?_; refine AL.d AOp.la ?_; refine AL.d (AOp.call rfl rfl (hv.pure _)) ?_; refine xN 2 ?_) | (refine AW.r 3 ?_; refine AL.d AOp.la ?_; refine AL.d (AOp.call rfl rfl (hp.pure _)) ?_; refine xN 2 ?_) | refine AW.jf ?_ | refine AW.go ?_ | fail)
   repeat' (first | fail)
   refine AW.cut (fun af ah => ∃ r5 : Nat, af = [(2, .ref r 0), (3, .int .i64 0), (4, .sl ((pxF A).1.map quA)), (5, .ref r5 0)] ∧ ah = [TB t, .box r zF, .box r5 (pxF A).2.st]) ?_ ?_
   ·change AW _ _ _ _ ([.box r zF, TB t] ++ [])
    repeat' (first | fail)
    refine AW.explore2 [] [2, 5, 6, 7, 8, 9, 10, 11, 12] rfl (by kernel_rfl) (by kernel_rfl) (by kernel_rfl) (by kernel_rfl) ?_
    refine AQ2.op rfl (AOp.la) rfl rfl ?_
    refine AQ2.op rfl (AOp.lit (e := 25) (sz := 6) (by kernel_rfl) rfl rfl rfl (P_one rfl) (by decide)) rfl rfl ?_
    refine AQ2.hole rfl rfl ?_
    refine AQ2.op rfl (AOp.la) rfl rfl ?_
    refine AQ2.op rfl (AOp.call rfl rfl (hNn.pure _)) rfl rfl ?_
    refine AQ2.hole rfl rfl ?_
    refine AQ2.hole rfl rfl ?_
    refine AQ2.hole rfl rfl ?_
    refine AQ2.hole rfl rfl ?_
    refine AQ2.hole rfl rfl ?_
    refine AQ2.hole rfl rfl ?_
    refine AQ2.hole rfl rfl ?_
    refine AQ2.hole rfl rfl ?_
    refine AQ2.nil ?_
    repeat' (first | refine AX2.two (n := 8) 2 10 rfl ?_ ?_ | refine AX2.one (n := 7) 2 rfl ?_ | refine AX2.two (n := 7) 5 10 rfl ?_ ?_ | refine AX2.one (n := 6) 5 rfl ?_ | refine AX2.two (n := 6) 6 10 rfl ?_ ?_ | refine AX2.one (n := 5) 6 rfl ?_ | refine AX2.two (n := 5) 7 10 rfl ?_ ?_ | refine AX2.one (n := 4) 7 rfl ?_ | refine AX2.three (n := 4) 8 9 10 rfl ?_ ?_ ?_ | refine AX2.two (n := 3) 8 9 rfl ?_ ?_ | refine AX2.two (n := 3) 8 10 rfl ?_ ?_ | refine AX2.two (n := 3) 9 10 rfl ?_ ?_ | refine AX2.one (n := 2) 8 rfl ?_ | refine AX2.two (n := 2) 9 11 rfl ?_ ?_ | refine AX2.one (n := 2) 10 rfl ?_ | refine AX2.one (n := 1) 9 rfl ?_ | refine AX2.one (n := 1) 11 rfl ?_ | refine AX2.one (n := 0) 12 rfl ?_ | (refine AX2S.step (i := 2) rfl rfl rfl (AOp.call rfl rfl (hN.pureE _)) ?_ (by rintro _ _ ⟨_, ⟨_, _, _, e, _⟩, _⟩; cases e); rintro _ _ ⟨_, ⟨rn, mt, g, e, rfl⟩, rfl⟩; injection e with e; subst e; dsimp only [sA, sB, sC, sD]) | (refine AX2S.step (i := 5) rfl rfl rfl (AOp.call rfl rfl (hA _ _ _ _)) ?_ (by rintro _ _ ⟨_, ⟨e, _⟩, _⟩; cases e); rintro _ _ ⟨_, ⟨e, g', rfl⟩, rfl⟩; injection e with e; subst e; dsimp only [sA, sB, sC, sD]) | (refine AX2S.step (i := 5) rfl rfl rfl (AOp.call rfl rfl (hA5 _ _ _ _ _)) ?_ (by rintro _ _ ⟨_, ⟨_, ⟨e, _⟩, _⟩, _⟩; cases e); rintro _ _ ⟨_, ⟨_, ⟨e, g', rfl⟩, rfl⟩, rfl⟩; injection e with e; subst e; dsimp only [sA, sB, sC, sD]) | (refine AX2S.det (i := 6) rfl rfl rfl (AOp.call rfl rfl (hX.pure _)) ?_; dsimp only [sA, sB, sC, sD]) | (refine AX2S.det (i := 7) rfl rfl rfl (AOp.ev rfl) ?_; dsimp only [sA, sB, sC, sD]) | (refine AX2S.det (i := 8) rfl rfl rfl (AOp.ev rfl) ?_; dsimp only [sA, sB, sC, sD]) | (refine AX2S.det (i := 9) rfl rfl rfl (AOp.ev rfl) ?_; dsimp only [sA, sB, sC, sD]) | (refine AX2S.step (i := 10) rfl rfl rfl (AOp.alloc (t := 25) (z := zF) (by kernel_rfl) rfl) ?_ (by rintro _ _ ⟨_, e, _⟩; cases e); rintro _ _ ⟨r5, e, rfl⟩; injection e with e; subst e; refine ax2_perm _ _ _ _ _ (perm_last _ _) ?_; dsimp only [sA, sB, sC, sD]) | (refine AX2S.det (i := 11) rfl rfl rfl (AOp.ev rfl) ?_; dsimp only [sA, sB, sC, sD]) | (refine AX2S.sl 4 (i := 12) rfl rfl (fun _ => ?_); dsimp only [sA, sB, sC, sD]) | fail)
    all_goals refine AX2.done_keep [2,3,4,5] ?_
    all_goals
     refine AW.drop (ah' := [TB t, .box r zF, .box r5 (pxF A).2.st]) ?_ ?_
     ·exact .cons_cons _ (.cons _ (.cons _ (.cons_cons _ (.cons_cons _ .slnil))))
     exact AW.meet [2, 3, 4, 5] ⟨r5, rfl, rfl⟩
   rintro _ _ ⟨r5, rfl, rfl⟩
   repeat' (first | refine AW.go ?_ | fail)
   refine AW.region_at 6 ?_
   refine AL.ev rfl rfl rfl rfl ?_
   refine AL.callQ rfl rfl (Tri.frame [false, false, false] hM) rfl ?_ ?_
   rotate_left
   ·rintro _ _ ⟨_, ⟨_, e, _⟩, _⟩; cases e
   rintro _ _ ⟨h1, ⟨v, e, hq⟩, rfl⟩
   injection e with e
   subst e
   rcases hq with ⟨ho, rfl, rfl⟩ | ⟨b, c, hne, hc, rfl, rfl⟩
   ·refine AL.d (AOp.call rfl rfl ((back_new nilS rfl).pure _)) ?_
    refine AL.nil ?_
    repeat' (first | refine AW.go ?_ | fail)
    refine AW.rangeFunc rfl [5] (fun h => h = [TB t, .box r zF, .box r5 (pxF A).2.st]) (fun _ => False) rfl rfl ?_ ?_ ?_
    ·intro fn l D tm htm
     exact (back_nil l tm _ _ _).mono fun x h ⟨h1, h2⟩ => ⟨h1, _, _, _, h2, .inl ⟨rfl, rfl, rfl⟩⟩
    ·rintro D _ rfl
     rw [ho] at hF ⊢
     change Tri _ _ [(pxF A).2.st] _ _ at hF
     repeat' (first | (refine AW.r 9 ?_; refine AL.d (AOp.lw 3) ?_; refine AL.d (AOp.call rfl rfl (hF.pure _)) ?_; refine AL.es 2 ?_; refine AL.sl 2 ?_; refine xN 1 ?_) | fail)
     exact AW.retM [D] (.cell 1 rfl rfl (by kernel_rfl) (.tmp rfl .nil)) (.cons_cons _ (.cons _ (.cons _ .slnil))) ⟨rfl, rfl⟩
    ·rintro D _ h; exact h.elim
   ·refine AL.d (AOp.call rfl rfl ((back_new _ rfl).pure _)) ?_
    refine AL.nil ?_
    repeat' (first | refine AW.go ?_ | fail)
    generalize hlst : mgL (pxF A).1 = lst at *
    generalize hRR : List.replicate ((c - lst.length) * 2) AV.any = RR at *
    refine AW.rangeFunc rfl [5] (fun h => h = [.row b (flQ lst ++ RR), TB t, .box r zF, .box r5 (wrapQ lst (pxF A).2).st]) (fun _ => False) rfl rfl ?_ ?_ ?_
    ·intro fn l D tm htm
     have hlen : lst.length ≤ 1000000 := by rw [← hlst]; have := mgF_len (pxF A).1 []; simp only [List.length_nil, Nat.zero_add] at this; unfold mgL; omega
     refine pre_it t l D b c r r5 fn tm _ _ _ lst RR _ hlen fun i q X Y hq hXe hYe => ?_
     have hdr : lst.drop i = q :: lst.drop (i + 1) := drop_cons hq
     refine TriY.round (n := 44) 0 (fun af ah => af = [(5, .ref r5 0), (7, .at (quA q))] ∧ ah = X) (by rw [hXe]; rfl) htm rfl rfl ?_ ?_
     ·intro Fr' w' R'
      repeat' (first | (refine AW.r 7 ?_; refine AL.alloc_store (by kernel_rfl) rfl rfl rfl rfl ?_; refine AL.nil ?_) | fail)
      exact AW.meet [5, 7] ⟨rfl, rfl⟩
     ·rintro _ _ ⟨rfl, rfl⟩
      subst hXe
      refine ⟨0, rfl, fun Fr' w' => ?_⟩
      unfold HH
      repeat' (first | (refine AW.r 8 ?_; refine AL.d AOp.fa ?_; refine AL.d AOp.la ?_; refine AL.d AOp.fa ?_; refine AL.d AOp.la ?_; refine AL.d (AOp.lw 5) ?_; refine AL.d (AOp.lit (e := 25) (sz := 6) (by kernel_rfl) rfl rfl rfl (P_one rfl) (by decide)) ?_; (refine AL.d (AOp.build (pl := [(0, 1), (1, 1), (2, 1), (3, 1), (4, 1), (5, 1)]) (z := zF) (by kernel_rfl) rfl rfl rfl) ?_) <;> (refine AL.sl 5 ?_) <;> refine AL.nil ?_) | refine AW.go ?_ | fail)
      refine AW.roundEnd 0 rfl ⟨rfl, ?_⟩
      rw [hYe]
      unfold HH
      rw [hdr]
      simp only [wrapQ, List.foldr_cons, GFml.st, List.map_cons, List.map_nil, GFml.av_eq]
      rfl
    ·rintro D _ rfl
     repeat' (first | (refine AW.r 9 ?_; refine AL.d (AOp.lw 4) ?_; refine AL.d (AOp.call rfl rfl (hF.pure _)) ?_; refine AL.es 2 ?_; refine AL.sl 3 ?_; refine xN 1 ?_) | fail)
     exact AW.retM [D] (.cell 2 rfl rfl (by kernel_rfl) (.tmp rfl .nil)) (.cons _ (.cons_cons _ (.cons _ (.cons _ .slnil)))) ⟨rfl, rfl⟩
    ·rintro D _ h; exact h.elim
theorem ref_Open : ∀ (N : Nat) (f : GFml) (hN : ndF f ≤ N) (ho : f.Ok), Tri Tryz.prog 74 [f.st] [] (D (.bool (opF f)) []) := by
 intro N
 induction N using Nat.strongRecOn with
 | _ N ih =>
 intro f hN ho
 obtain ⟨hio, h6, h7⟩ := ho
 obtain ⟨k, ar, nm, vars, args, kids⟩ := f
 simp only at h6 h7
 have hnd : ndFs kids < N := by rw [ndF] at hN; omega
 rw [opF]
 refine Tri.enter 26 Tryz.func74 rfl rfl rfl rfl fun Fr w0 => ?_
 repeat' (first | (refine AW.r 0 ?_; (refine AL.d (AOp.box_ro (v := .st [.int .i64 k, .int .i64 ar, .str nm, strs vars, strs args, .sl (kids.map GFml.av)]) rfl rfl) ?_) <;> refine AL.es 1 ?_ <;> refine AL.nil ?_) | (refine xS 1 4 ?_; ((refine AL.gx (fun hb => ?_) (fun hb => ?_) <;> refine AL.es 4 ?_)) <;> refine AL.nil ?_) | refine AW.re 2 1 ?_ | refine AW.jt ?_ | refine AW.jj (fun hb => ?_) (fun hb => ?_) | refine AW.go ?_ | fail)
 rotate_left 2
 ·rename_i hb6
  rw [hb6, hb]
  repeat' (first | refine AW.re 3 1 ?_ | refine AW.go ?_ | fail)
  refine AW.prune [1, 3] (AW.loop (fun mz af h => ∃ (i : Nat), i ≤ kids.length ∧ mz = kids.length - i ∧ af = [(1, .at (.st [.int .i64 k, .int .i64 ar, .str nm, strs vars, strs args, .sl (kids.map GFml.av)])), (3, .int .i64 i)] ∧ h = [] ∧ opL kids = opL (kids.drop i)) kids.length ⟨0, Nat.zero_le _, rfl, rfl, rfl, rfl⟩ ?_)
  rintro mz af h ⟨i, hi, rfl, rfl, rfl, he⟩
  refine AW.seq ?_
  by_cases hlt : i < kids.length
  ·obtain ⟨x, hx⟩ := get_lt hlt
   have hx' : (kids.map GFml.av)[((i : Nat) : Int).toNat]? = some x.st := GFml.get hx
   have hxm := lG hx
   have hr := ih (ndFs kids) hnd x (ndFs_mem hxm) (h7 x hxm)
   rw [drop_cons hx, opL] at he
   generalize opF x = B at *
   repeat' (first | refine AW.re 4 5 ?_ | refine AW.jj (fun hb => ?_) (fun hb => ?_) | refine AW.go ?_ | fail)
   all_goals try (exfalso; simp only [dT, dF, lM] at *; omega)
   cases B <;> repeat' (first | (refine xS 6 3 ?_; refine AL.d (iX hx') ?_; refine AL.es 1 ?_; refine AL.d (AOp.call rfl rfl hr) ?_; refine xN 1 ?_) | refine AW.re 7 1 ?_ | (refine xS 5 1 ?_; refine AL.d AOp.ad ?_; refine xN 1 ?_) | refine AW.jt ?_ | refine AW.jf ?_ | fail)
   ·exact AW.retv rfl ⟨by rw [he]; rfl, rfl⟩
   ·refine AW.again_keep (kids.length - (i + 1)) [1, 3] (by omega) ⟨i + 1, hlt, rfl, rfl, rfl, ?_⟩
    rw [he]; rfl
  ·rw [List.drop_eq_nil_of_le (by omega), opL] at he
   repeat' (first | refine AW.re 4 5 ?_ | refine AW.re 8 1 ?_ | refine AW.jj (fun hb => ?_) (fun hb => ?_) | refine AW.go ?_ | fail)
   all_goals try (exfalso; simp only [dT, dF, lM] at *; omega)
   exact AW.retv rfl ⟨by rw [he]; rfl, rfl⟩
 all_goals
  refine AW.retv rfl ⟨?_, rfl⟩
  first
   | (rw [hb]; rfl)
   | (rw [hb, Bool.or_true]; rfl)
theorem ref_PrenexB (f : GFml) (ho : f.Ok) (hs : shsF f = true) : Tri Tryz.prog 33 [f.st] [] (D (.bool (prB f)) []) := by
 refine Tri.enter 17 Tryz.func33 rfl rfl rfl rfl fun Fr w0 => ?_
 repeat' (first | (refine AW.r 0 ?_; refine AL.box (v := f.st) rfl rfl rfl fun b => ?_; refine xN 1 ?_) | refine AW.go ?_ | fail)
 refine AW.prune [1] (AW.loop (fun m af h => ∃ g : GFml, m = ndF g ∧ g.Ok ∧ shsF g = true ∧ af = [(1, .ref b 0)] ∧ h = [.box b g.st] ∧ prB f = prB g) (ndF f) ⟨f, rfl, ho, hs, rfl, rfl, rfl⟩ ?_)
 rintro m af h ⟨g, rfl, hg, hgs, rfl, rfl, he⟩
 refine AW.seq ?_
 have hO := ref_Open _ g (Nat.le_refl _) hg
 obtain ⟨_, _, g7⟩ := hg
 obtain ⟨k, ar, nm, vars, args, kids⟩ := g
 simp only at g7
 rw [shsF, bA] at hgs
 rw [prB] at he
 cases h67 : (k == 6 || k == 7) with
 | true =>
  have hk : k = 6 ∨ k = 7 := by simpa using h67
  have hl := shaped_q1 hgs.2 (by simp only; omega)
  simp only at hl
  match kids, hl, hgs, g7, he with
  | [x], _, hgs, g7, he =>
  rw [h67, cond_true, prH] at he
  have hx1 := hgs.1
  rw [shsFs, bA] at hx1
  have hx' : ([x].map GFml.av)[(0 : Int).toNat]? = some x.st := by rw [← GFml.av_eq]; rfl
  have hxo := g7 x (by simp)
  obtain ⟨xk, xa, xn, xv, xg, xs⟩ := x
  repeat' (first | (refine AW.r 1 ?_; refine AL.d (AOp.fr 0) ?_; refine AL.d (AOp.ll 0) ?_; refine AL.es 2 ?_; ((refine AL.gx (fun hb => ?_) (fun hb => ?_) <;> first | (refine AL.gd ?_; (refine AL.d (AOp.fr 0) ?_)) | refine AL.gs ?_)) <;> (first | (refine AL.gd ?_; (refine AL.d (AOp.ll 0) ?_)) | refine AL.gs ?_) <;> refine AL.es 2 ?_ <;> refine AL.nil ?_) | (refine AW.r 2 ?_; refine AL.d (AOp.fr 5) ?_; refine AL.d (AOp.ll 0) ?_; refine AL.d (iX hx') ?_; refine AL.d AOp.la ?_; refine AL.sl 0 ?_; refine AL.nil ?_) | refine AW.jt ?_ | refine AW.jj (fun hb => ?_) (fun hb => ?_) | refine AW.go ?_ | fail)
  all_goals try (exfalso; simp only [beq_iff_eq, beq_eq_false_iff_ne] at *; omega)
  all_goals exact AW.again_keep _ [1] (by simp only [ndF, ndFs]; omega) ⟨_, rfl, hxo, hx1.1, rfl, rfl, he⟩
 | false =>
  rw [h67, cond_false] at he
  have hk : k ≠ 6 ∧ k ≠ 7 := by simp only [Bool.or_eq_false_iff, beq_eq_false_iff_ne] at h67; exact h67
  repeat' (first | (refine AW.r 1 ?_; refine AL.d (AOp.fr 0) ?_; refine AL.d (AOp.ll 0) ?_; refine AL.es 2 ?_; ((refine AL.gx (fun hb => ?_) (fun hb => ?_) <;> first | (refine AL.gd ?_; (refine AL.d (AOp.fr 0) ?_)) | refine AL.gs ?_)) <;> (first | (refine AL.gd ?_; (refine AL.d (AOp.ll 0) ?_)) | refine AL.gs ?_) <;> refine AL.es 2 ?_ <;> refine AL.nil ?_) | (refine AW.r 3 ?_; refine AL.d (AOp.lw 0) ?_; refine AL.d (AOp.call rfl rfl (hO.pure _)) ?_; refine xN 1 ?_) | refine AW.jt ?_ | refine AW.jj (fun hb => ?_) (fun hb => ?_) | refine AW.go ?_ | fail)
  all_goals try (exfalso; simp only [beq_iff_eq, beq_eq_false_iff_ne] at *; omega)
  all_goals exact AW.ret_drop rfl (List.nil_sublist _) ⟨by rw [he], rfl⟩
theorem plF_parts {f : GFml} (h : plF f = true) : f.Kind ≤ 7 ∧ ∀ x ∈ f.Kids, plF x = true := by
 obtain ⟨k, ar, nm, vars, args, kids⟩ := f
 rw [plF, plL_any, List.not_any_eq_all_not, bA, dT] at h
 refine ⟨h.1, fun x hx => ?_⟩
 have := List.all_eq_true.1 h.2 x hx
 simpa using this
theorem w_HoldsP (bw N M : Nat) (T0 : TT) (hM : 5001 < M) : ∀ (D : Nat) (f : GFml) (n : NT) (s : WS), ndF f ≤ D → n.f = f → HC N T0 s f → f.Ok → shsF f = true → grF f = true → plF f = true → KOk N M T0 n →
  Tri Tryz.prog 155 [.ref bw 0, .ref n.b 0] (hH bw s n) (HPost bw s n (KOk N M T0) (.bool (sem N M f s.T s.V)) []) := by
 intro D
 induction D with
 | zero => intro f n s hD; have := ndF_eq f; omega
 | succ D ih =>
  intro f n s hD hnf hC ho hsh hg hpl hK
  subst hnf
  obtain ⟨hok, hN, hb1, ht0, hokf, hn1, ht1⟩ := hC
  subst hN
  have hsp : shapedP n.f = true := by rw [shsF_eq, bA] at hsh; exact hsh.2
  have hnd := ndF_eq n.f
  obtain ⟨hko⟩ := ho
  rename_i hko1 hko2
  have hkx : ∀ x ∈ n.f.Kids, x.Ok ∧ shsF x = true ∧ grF x = true ∧ plF x = true ∧ ndF x ≤ D ∧ ndF x + 1 ≤ ndF n.f := fun x hx => by
   have := ndFs_mem hx
   exact ⟨hko2 x hx, shsFs_mem (shsF_kids hsh) hx, grFs_mem (grF_kids hg) hx, (plF_parts hpl).2 x hx, by omega, by omega⟩
  have hAt : ∀ x ∈ n.f.Kids, ∀ k' : NT, k'.f = x → ∀ (names : List ByteArray) (t : List Int), t.length = names.length → names.length ≤ 24 → okF s.N x (tl s.T) → HoldsAt bw (KOk s.N M T0) s k' names t (sem s.N M x s.T (s.V ++ names.zip t)) := by
   intro x hx k' hkf names t hl hl2 hokx s' n' h1 h2 h3 h4 h5 h6 h7 h8 h9
   obtain ⟨q1, q2, q3, q6, q4, q5⟩ := hkx x hx
   have hT : s'.T = s.T := by unfold WS.T; rw [h4]
   have := ih x n' s' q4 (h8.trans hkf) ⟨h1, h2, by rw [h3, h4]; exact hb1, by rw [hT, h3]; exact ht0, by rw [hT]; exact hokx, by rw [h5, lA]; omega, by rw [h4]; omega⟩ q1 q2 q3 q6 h9
   rwa [hT, WS.V_app hok h5 h6] at this
  rcases (by have := kind_bd hsp; omega : n.f.Kind = 0 ∨ n.f.Kind = 1 ∨ n.f.Kind = 2 ∨ n.f.Kind = 3 ∨ n.f.Kind = 4 ∨ n.f.Kind = 5 ∨ n.f.Kind = 6 ∨ n.f.Kind = 7 ∨ n.f.Kind = 8 ∨ n.f.Kind = 9 ∨ n.f.Kind = 10 ∨ n.f.Kind = 11) with e | e | e | e | e | e | e | e | e | e | e | e
  ·have hal : n.f.Args.length ≤ 24 := shaped_args0 hsp e
   exact w_H0 bw M _ n s hok hK e hal (by rw [okF_eq] at hokf; exact hokf.1 e)
  ·exact w_H1 bw M _ n s hok hK e (shaped_eq2 hsp (.inl e))
  ·exact w_H2 bw M _ n s hok hK e (shaped_eq2 hsp (.inr e))
  ·obtain ⟨x, hx⟩ := kids1 hsp (by simp [e])
   obtain ⟨k, hk1, hkf, hKk⟩ := KOk_kid hK (i := 0) (x := x) (by rw [hx]; rfl)
   have hokx := okFL_mem (okF_kids hokf (by omega) (by omega) (by omega)) x (by rw [hx]; simp)
   have hA := hAt x (by rw [hx]; simp) k hkf [] [] rfl (by simp) hokx
   rw [sem_3 _ _ _ _ _ e, hx, semH_one]
   simp only [List.zip_nil_left, List.append_nil] at hA
   exact w_H3 bw M (KOk s.N M T0) (KOk s.N M T0) n k s _ hok hk1 hKk (fun k' e1 e2 e3 => KOk_put hK hk1 e2 e3) e hA
  ·have hokL := okF_kids hokf (by omega) (by omega) (by omega)
   rw [sem_4 _ _ _ _ _ e]
   refine w_H4 bw s.N M T0 n s hok e (by have := ndFs_len n.f.Kids; omega) hK fun i x hx k' hkf => ?_
   have hA := hAt x (lG hx) k' hkf [] [] rfl (by simp) (okFL_mem hokL x (lG hx))
   simpa using hA
  ·have hokL := okF_kids hokf (by omega) (by omega) (by omega)
   rw [sem_5 _ _ _ _ _ e]
   refine w_H5 bw s.N M T0 n s hok e (by have := ndFs_len n.f.Kids; omega) hK fun i x hx k' hkf => ?_
   have hA := hAt x (lG hx) k' hkf [] [] rfl (by simp) (okFL_mem hokL x (lG hx))
   simpa using hA
  ·obtain ⟨x, hx⟩ := kids1 hsp (by simp [e])
   obtain ⟨k, hk1, hkf, hKk⟩ := KOk_kid hK (i := 0) (x := x) (by rw [hx]; rfl)
   have hokx := okFL_mem (okF_kids hokf (by omega) (by omega) (by omega)) x (by rw [hx]; simp)
   have hvl := shaped_vars hsp
   have := w_H6 bw (KOk s.N M T0) (KOk s.N M T0) (fun i => sem s.N M x s.T (s.V ++ n.f.Vars.zip (tup s.N n.f.Vars.length i))) n k s hok hk1 hKk (fun k' e1 e2 e3 => KOk_put hK hk1 e2 e3) e (by omega)
    (fun i _ => hAt x (by rw [hx]; simp) k hkf n.f.Vars _ (tup_len _ _ _) hvl hokx)
   rw [sem_6 _ _ _ _ _ e, hx]
   simpa [semH_one] using this
  ·obtain ⟨x, hx⟩ := kids1 hsp (by simp [e])
   obtain ⟨k, hk1, hkf, hKk⟩ := KOk_kid hK (i := 0) (x := x) (by rw [hx]; rfl)
   have hokx := okFL_mem (okF_kids hokf (by omega) (by omega) (by omega)) x (by rw [hx]; simp)
   have hvl := shaped_vars hsp
   have := w_H7 bw (KOk s.N M T0) (KOk s.N M T0) (fun i => sem s.N M x s.T (s.V ++ n.f.Vars.zip (tup s.N n.f.Vars.length i))) n k s hok hk1 hKk (fun k' e1 e2 e3 => KOk_put hK hk1 e2 e3) e (by omega)
    (fun i _ => hAt x (by rw [hx]; simp) k hkf n.f.Vars _ (tup_len _ _ _) hvl hokx)
   rw [sem_7 _ _ _ _ _ e, hx]
   simpa [semH_one] using this
  all_goals exact absurd (plF_parts hpl).1 (by omega)
theorem ref_QueryP (N M : Nat) (f : GFml) (s : GStr) (vars : List ByteArray) (hM : 5001 < M) (hs : s.Ok) (hv : SOk N s) (hf : f.Ok) (hsh : shsF f = true) (hg : grF f = true) (hpl : plF f = true) (hnd : ndF f ≤ 1500) (hvl : vars.length ≤ 24) (hp : N ^ vars.length ≤ 4096)
  (hok : okF N f (tl (strT N s))) :
  Tri Tryz.prog 67 [f.st, s.av, strs vars] [] (fun x h => ∃ lg, x = .ret (.tup [.sl ((qryL N M f (strT N s) vars (N ^ vars.length)).map ints), .bool lg]) ∧ h = []) := by
 have hO := ref_Of N s hs hv
 have hT := ref_Tree (ndF f) f (Nat.le_refl _) hf (by omega)
 have hTu := ref_Tuples N vars.length ⟨hv.n1, hv.n2⟩ (by omega) hp
 obtain ⟨L, hL⟩ : ∃ L, L = N ^ vars.length := ⟨_, rfl⟩
 rw [← hL] at hp hTu
 rw [← hL]
 have hsa : s.av = .st [.int .i64 N, .sl (s.Rels.map GRel.av)] := by unfold GStr.av; rw [hv.size]
 rw [hsa] at hO
 rw [hsa]
 have hvlen : ((vars.map AV.str).length : Int) = vars.length := by simp
 rw [← hvlen] at hTu
 refine Tri.enter 47 Tryz.func67 rfl rfl rfl rfl fun Fr w0 => ?_
 repeat' (first | (refine AW.r 0 ?_; refine AL.d (AOp.box_ro rfl rfl) ?_; refine AL.d (AOp.box_ro rfl rfl) ?_; refine AL.d AOp.assign_nil ?_; refine AL.e ?_; refine AL.nil ?_) | fail)
 refine AW.seq ?_
 refine AW.cut (fun af h => ∃ bw w n, af = [(2, strs vars), (4, .at (.st [.int .i64 N, .sl (s.Rels.map GRel.av)])), (6, .slt [] none 0), (8, .ref bw 0), (9, .ref n.b 0)] ∧ h = hH bw w n ∧ W0 N s.Rels.length (strT N s) w ∧ n.f = f ∧ NewT n) ?_ ?_
 ·refine AW.frame_eq rfl (show _ = [] ++ [] from rfl) ?_
  repeat' (first | fail)
  refine AW.explore2 [1,3] [1, 3, 4, 5] rfl (by kernel_rfl) (by kernel_rfl) (by kernel_rfl) (by kernel_rfl) ?_
  refine AQ2.op rfl (AOp.la) rfl rfl ?_
  refine AQ2.hole rfl rfl ?_
  refine AQ2.op rfl (AOp.la) rfl rfl ?_
  refine AQ2.hole rfl rfl ?_
  refine AQ2.hole rfl rfl ?_
  refine AQ2.hole rfl rfl ?_
  refine AQ2.nil ?_
  repeat' (first | refine AX2.one (n := 3) 1 rfl ?_ | refine AX2.one (n := 2) 3 rfl ?_ | refine AX2.one (n := 1) 4 rfl ?_ | refine AX2.one (n := 0) 5 rfl ?_ | (refine AX2S.mk (i := 1) rfl rfl rfl (AOp.call rfl rfl hO) ?_ (by rintro _ _ ⟨_, _, e, _⟩; cases e); rintro _ _ ⟨bw, w, e, rfl, hw⟩; injection e with e; subst e; dsimp only [sA, sB, sC, sD]) | (refine AX2S.mk (i := 3) rfl rfl rfl (AOp.call rfl rfl hT) ?_ (by rintro _ _ ⟨_, e, _⟩; cases e); rintro _ _ ⟨n, e, rfl, hnf, hnn⟩; injection e with e; subst e; dsimp only [sA, sB, sC, sD]) | (refine AX2S.det (i := 4) rfl rfl rfl (AOp.ev rfl) ?_; dsimp only [sA, sB, sC, sD]) | (refine AX2S.det (i := 5) rfl rfl rfl (AOp.ev rfl) ?_; dsimp only [sA, sB, sC, sD]) | fail)
  all_goals refine AX2.done_keep [2,4,6,8,9] ?_
  refine AW.perm (b := hH bw w n) ?_ (AW.meet [2, 4, 6, 8, 9] ⟨bw, w, n, rfl, rfl, hw, hnf, hnn⟩)
  rw [nown_eq]
  exact List.Perm.trans (by simp only [List.append_nil]; exact .cons _ List.perm_append_comm) (List.Perm.refl _)
 rintro _ _ ⟨bw, w, n, rfl, rfl, hw, hnf, hnn⟩
 repeat' (first | (refine xS 2 4 ?_; refine AL.d (AOp.call rfl rfl (hTu.pure _)) ?_; refine xN 1 ?_) | refine AW.go ?_ | fail)
 refine AW.own_nil 1 ?_
 repeat' (first | refine AW.re 3 1 ?_ | refine AW.go ?_ | fail)
 obtain ⟨TT0, hTT0⟩ : ∃ T, T = strT N s := ⟨_, rfl⟩
 rw [← hTT0] at hw hok ⊢
 have hlen : (((tupL N vars.length L).map ints).length : Int) = L := by rw [lM, tupL_len]
 refine AW.prune [2, 10, 6, 8, 9, 11] (AW.loop (fun mz af h => ∃ (i : Nat) (tb : Option Nat) (tc : Nat) (w1 : WS) (n1 : NT), i ≤ L ∧ mz = L - i ∧ af = [(2, strs vars), (10, .sl ((tupL N vars.length L).map ints)), (6, .slt ((qryL N M f TT0 vars i).map ints) tb tc), (8, .ref bw 0), (9, .ref n.b 0), (11, .int .i64 i)] ∧ h = .tail tb ((qryL N M f TT0 vars i).map ints).length tc 1 :: hH bw w1 n1 ∧ (Same w w1 ∧ n1.b = n.b ∧ n1.f = f ∧ KOk N M TT0 n1)) L ⟨0, none, 0, w, n, Nat.zero_le _, rfl, rfl, rfl, ⟨Same.refl hw.ok, rfl, hnf, hnn _ _ _⟩⟩ ?_)
 rintro mz af h ⟨i, tb, tc, w1, n1, hi, rfl, rfl, rfl, he⟩
 refine AW.seq ?_
 by_cases hlt : i < L
 all_goals obtain ⟨sm, nb, nf, hk⟩ := he
 ·have hx' : ((tupL N vars.length L).map ints)[((i : Nat) : Int).toNat]? = some (ints (tup N vars.length i)) := map_get (tupL_get hlt)
  have htl := tup_len N vars.length i
  have htm : ∀ y ∈ tup N vars.length i, 0 ≤ y ∧ y < N := fun y hy => tup_mem (by have := hv.n1; omega) _ _ y hy
  have hql := qryL_len N M f TT0 vars i
  have hns : w1.ns = [] := sm.ns.trans hw.ns
  have hvs : w1.vs = [] := sm.vs.trans hw.vs
  have hN1 : w1.N = N := sm.N.trans hw.eN
  have hT1 : w1.T = TT0 := sm.T.trans hw.eT
  have hTl : TT0.length = s.Rels.length := by rw [hTT0]; simp [strT]
  have htsl : w1.ts.length = s.Rels.length := by have := congrArg List.length hT1; unfold WS.T at this; rw [lM] at this; omega
  have hb1 : w1.base = s.Rels.length := sm.base.trans hw.eb
  obtain ⟨B, hB⟩ : ∃ B, B = sem N M f TT0 (vars.zip (tup N vars.length i)) := ⟨_, rfl⟩
  have hWi := w_With_ro bw (KOk N M TT0) B n1 w1 vars (tup N vars.length i) sm.ok htl (by rw [hns]; simp; omega) (fun y hy => by rw [hN1]; exact htm y hy) (fun s' h1 h2 h3 h4 h5 h6 => by
   have hT2 : s'.T = TT0 := by unfold WS.T at hT1 ⊢; rw [h4]; exact hT1
   have hV2 : s'.V = vars.zip (tup N vars.length i) := by unfold WS.V; rw [h5, h6, hns, hvs]; rfl
   have := w_HoldsP bw N M TT0 hM (ndF f) f n1 s' (Nat.le_refl _) nf ⟨h1, h2.trans hN1, by rw [h3, h4, hb1, htsl]; exact Nat.le_refl _, by rw [hT2, h3, hb1, ← hTl]; exact List.take_length, by rw [hT2]; exact hok, by rw [h5, hns]; simp; omega, by rw [h4, htsl]; have := hv.few; omega⟩ hf hsh hg hpl hk
   rw [hT2, hV2, ← hB] at this
   exact this)
  rw [nb] at hWi
  have hc := Tri.ahead hWi [.tail tb ((qryL N M f TT0 vars i).map ints).length tc 1]
  have hq1 : qryL N M f TT0 vars (i + 1) = qryL N M f TT0 vars i ++ if B then [tup N vars.length i] else [] := by rw [hB]; exact qryL_snoc _ _ _ _ _ _
  clear hO hT hTu hWi
  cases B with
  | true =>
   have hmm : (qryL N M f TT0 vars (i + 1)).map ints = (qryL N M f TT0 vars i).map ints ++ [ints (tup N vars.length i)] := by rw [hq1]; simp
   repeat' (first | refine AW.re 4 4 ?_ | (refine xS 6 4 ?_; refine AL.d (iX hx') ?_; refine AL.d AOp.la ?_; refine AL.es 1 ?_; (refine AL.callQ rfl rfl hc rfl ?_ ?_; rotate_left; rintro _ _ ⟨_, ⟨e, _⟩, _⟩; cases e; rintro _ _ ⟨_, ⟨e, s3, n3, rfl, sm3, nb3, nf3, hk3⟩, rfl⟩; injection e with e; subst e) <;> refine AL.nil ?_) | refine AW.jt ?_ | refine AW.jj (fun hb => ?_) (fun hb => ?_) | refine AW.go ?_ | fail)
   all_goals try (exfalso; simp only [dT, dF, lM] at *; omega)
   repeat' (first | (refine xS 7 3 ?_; refine AL.d (iX hx') ?_; refine AL.d AOp.la ?_; refine AL.d (AOp.lit (e := 52) (sz := 1) (by kernel_rfl) rfl rfl rfl (P_one rfl) (by decide)) ?_; refine AL.append (i := 0) (e := 52) (sz := 1) (bytes := 24) rfl rfl rfl rfl (by kernel_rfl) (by kernel_rfl) (by repeat' (exact P_map fun _ => rfl)) (by repeat' (exact P_one rfl)) (ok_all (by repeat' (exact P_one rfl))) (by (try simp only [lA, lM, List.length_take, List.length_drop, List.length_cons, List.length_nil, List.length_replicate]); omega) (by (try simp only [lA, lM, List.length_take, List.length_drop, List.length_cons, List.length_nil, List.length_replicate]); omega) rfl fun b' c' => ?_ <;> refine AL.es 1 ?_ <;> refine AL.nil ?_) | (refine xS 5 1 ?_; refine AL.d AOp.ad ?_; refine xN 1 ?_) | fail)
   exact AW.again_keep (L - (i + 1)) [2, 10, 6, 8, 9, 11] (by omega) ⟨i + 1, b', c', s3, n3, hlt, rfl, by rw [hmm]; rfl, by rw [hmm]; rfl, sm.trans sm3, nb3.trans nb, nf3.trans nf, hk3⟩
  | false =>
   have hmm : qryL N M f TT0 vars (i + 1) = qryL N M f TT0 vars i := by rw [hq1]; simp
   repeat' (first | refine AW.re 4 4 ?_ | (refine xS 6 4 ?_; refine AL.d (iX hx') ?_; refine AL.d AOp.la ?_; refine AL.es 1 ?_; (refine AL.callQ rfl rfl hc rfl ?_ ?_; rotate_left; rintro _ _ ⟨_, ⟨e, _⟩, _⟩; cases e; rintro _ _ ⟨_, ⟨e, s3, n3, rfl, sm3, nb3, nf3, hk3⟩, rfl⟩; injection e with e; subst e) <;> refine AL.nil ?_) | (refine xS 5 1 ?_; refine AL.d AOp.ad ?_; refine xN 1 ?_) | refine AW.jf ?_ | refine AW.jj (fun hb => ?_) (fun hb => ?_) | refine AW.go ?_ | fail)
   all_goals try (exfalso; simp only [dT, dF, lM] at *; omega)
   exact AW.again_keep (L - (i + 1)) [2, 10, 6, 8, 9, 11] (by omega) ⟨i + 1, tb, tc, s3, n3, hlt, rfl, by rw [hmm]; rfl, by rw [hmm]; rfl, sm.trans sm3, nb3.trans nb, nf3.trans nf, hk3⟩
 ·obtain rfl : i = L := by omega
  repeat' (first | refine AW.re 4 4 ?_ | refine AW.jj (fun hb => ?_) (fun hb => ?_) | refine AW.go ?_ | fail)
  all_goals try (exfalso; simp only [dT, dF, lM] at *; omega)
  refine AW.as_sl 6 rfl ?_
  refine AW.drop (ah' := [Own.box bw w1.box]) (.cons _ (.cons _ (.cons_cons _ (List.nil_sublist _)))) ?_
  repeat' (first | (refine AW.dq 8 ?_; refine AQ.es 3 ?_; refine AQ.p rfl (AOp.fr 5) ?_; refine AQ.p rfl (AOp.ll 0) ?_; refine AQ.es 2 ?_; refine AQ.nil ?_) | fail)
  exact AW.drop (List.nil_sublist _) (AW.retv rfl ⟨w1.long, rfl, rfl⟩)
theorem law_evaluatedP (M : Nat) (hM : 5001 < M) (f : GFml) (s : GStr) (vars : List ByteArray) (hok : f.Ok) (hs : s.Ok) (hv : validF f = true) (hpl : plF f = true) (hnd : ndF f ≤ 1500) (hvl : vars.length ≤ 24) :
  Tri Tryz.prog 24 [f.st, s.av, strs vars] [] (fun x h => ∃ v b, x = .ret (.tup [v, .bool b]) ∧ h = [] ∧ (b = true → ∃ N, SOk N s ∧ N ^ vars.length ≤ 4096 ∧ v = .sl ((qryL N M f (strT N s) vars (N ^ vars.length)).map ints))) := by
 have hVS := ref_ValidS s hs
 have hvv := hv
 unfold validF at hvv
 simp only [bA] at hvv
 have hsh : shsF f = true := hvv.1.1.1.2
 have hg : grF f = true := hvv.1.2
 cases hsv : validStr s with
 | false =>
  rw [hsv] at hVS
  refine Tri.enter 58 Tryz.func24 rfl rfl rfl rfl fun Fr w0 => ?_
  repeat' (first | (refine AW.r 0 ?_; refine AL.d (AOp.box_ro rfl rfl) ?_; refine AL.d (AOp.box_ro rfl rfl) ?_; refine xN 2 ?_) | (refine AW.dq 1 ?_; refine AQ.es 1 ?_; refine AQ.p rfl (AOp.call rfl rfl hVS) ?_; refine AQ.es 2 ?_; refine AQ.es 4 ?_; refine AQ.k ?_; refine AQ.es 3 ?_; refine AQ.es 3 ?_; refine AQ.k ?_; refine AQ.es 3 ?_; refine AQ.es 3 ?_; refine AQ.k ?_; refine AQ.es 3 ?_; refine AQ.es 3 ?_; refine AQ.k ?_; refine AQ.es 4 ?_; refine AQ.k ?_; refine AQ.k ?_; refine AQ.es 2 ?_; refine AQ.nil ?_) | refine AW.re 2 2 ?_ | refine AW.jt ?_ | fail)
  all_goals try (exfalso; simp only [dT, dF, lM] at *; omega)
  exact AW.retv rfl ⟨_, false, rfl, rfl, fun h => by cases h⟩
 | true =>
  rw [hsv] at hVS
  obtain ⟨N, hS⟩ := SOk_of hsv
  have hCk := ref_Check f s hok hs hv hsv (by omega) vars (by omega)
  have hSz := ref_Size N ⟨hS.n1, hS.n2⟩ f hok hsh (by omega)
  have hCo := ref_Cost N ⟨by have := hS.n1; omega, by have := hS.n2; omega⟩ _ f (Nat.le_refl _) hok hsh (by omega)
  have hcB := costF_B (N := N) ⟨by have := hS.n1; omega, by have := hS.n2; omega⟩ f
  have hP := ref_Pow N vars.length (by have := hS.n1; have := hS.n2; omega) (by omega)
  have hpv := ppow_val hS.n1 vars.length 1 (Nat.le_refl _)
  rw [Nat.one_mul] at hpv
  have hQ := fun h1 h2 => ref_QueryP N M f s vars hM hs hS hok hsh hg hpl hnd hvl h1 h2
  have hOk := okF_str (N := N) hv hS hsv
  have hsa : s.av = .st [.int .i64 N, .sl (s.Rels.map GRel.av)] := by unfold GStr.av; rw [hS.size]
  rw [hsa] at hVS hCk hQ ⊢
  have hvlen : ((vars.map AV.str).length : Int) = vars.length := by simp
  rw [← hvlen] at hP
  rw [hvlen, Int.toNat_natCast] at hP
  rw [← hvlen] at hP
  have hfit : chkI f s vars = 0 → fitsB s (symL (ocF f [] [])) = true := fun h => by
   unfold chkI at h
   cases hf : fitsB s (symL (ocF f [] [])) with
   | true => rfl
   | false => rw [if_pos hf] at h; cases h
  obtain ⟨c0, c1⟩ := hcB
  by_cases hp : ppow N vars.length 1 ≤ 4096
  ·have hp4 := hpv.2.1 hp
   have hp1 := hpv.2.2
   have hp1 : 1 ≤ ppow N vars.length 1 := hp1
   clear hpv
   generalize hL : ppow N vars.length 1 = p at *
   by_cases hc : chkI f s vars = 0
   ·have hOk := hOk (hfit hc)
    rw [hc] at hCk
    by_cases hz : smF N f = true ∧ costF N f < 1099511627776
    ·rw [if_pos hz] at hSz
     have hQ := hQ hp4 (hOk hz.1)
     generalize costF N f = cst at *
     have hm1 := Int.mul_le_mul c1 hp (by omega) (by omega)
     have hm0 := Int.mul_nonneg c0 (show 0 ≤ p by omega)
     by_cases hm : cst * p > 400000
     ·refine Tri.enter 58 Tryz.func24 rfl rfl rfl rfl fun Fr w0 => ?_
      repeat' (first | (refine AW.r 0 ?_; refine AL.d (AOp.box_ro rfl rfl) ?_; refine AL.d (AOp.box_ro rfl rfl) ?_; refine xN 2 ?_) | (refine AW.dq 1 ?_; refine AQ.es 1 ?_; refine AQ.p rfl (AOp.call rfl rfl hVS) ?_; refine AQ.es 2 ?_; refine AQ.es 4 ?_; refine AQ.gp rfl (AOp.call rfl rfl hP) ?_; refine AQ.es 3 ?_; ((refine AQ.x (fun hb => ?_) (fun hb => ?_) <;> refine AQ.es 3 ?_)) <;> (first | refine AQ.gp rfl (AOp.call rfl rfl hCk) ?_ | refine AQ.k ?_) <;> refine AQ.es 3 ?_ <;> (refine AQ.es 3 ?_) <;> (first | refine AQ.gp rfl (AOp.call rfl rfl hSz) ?_ | refine AQ.k ?_) <;> refine AQ.es 3 ?_ <;> (refine AQ.es 3 ?_) <;> (first | refine AQ.gp rfl (AOp.call rfl rfl hCo) ?_ | refine AQ.k ?_) <;> refine AQ.es 4 ?_ <;> (first | refine AQ.gp rfl (AOp.call rfl rfl hP) ?_ | refine AQ.k ?_) <;> (first | refine AQ.gp rfl (AOp.mul rfl rfl (by omega)) ?_ | refine AQ.k ?_) <;> refine AQ.es 2 ?_ <;> refine AQ.nil ?_) | refine AW.re 2 2 ?_ | refine AW.jt ?_ | refine AW.jj (fun hb => ?_) (fun hb => ?_) | refine AW.go ?_ | fail)
      all_goals try (exfalso; simp only [dT, dF] at *; omega)
      exact AW.retv rfl ⟨_, false, rfl, rfl, fun h => by cases h⟩
     ·refine Tri.enter 58 Tryz.func24 rfl rfl rfl rfl fun Fr w0 => ?_
      repeat' (first | (refine AW.r 0 ?_; refine AL.d (AOp.box_ro rfl rfl) ?_; refine AL.d (AOp.box_ro rfl rfl) ?_; refine xN 2 ?_) | (refine AW.dq 1 ?_; refine AQ.es 1 ?_; refine AQ.p rfl (AOp.call rfl rfl hVS) ?_; refine AQ.es 2 ?_; refine AQ.es 4 ?_; refine AQ.gp rfl (AOp.call rfl rfl hP) ?_; refine AQ.es 3 ?_; ((refine AQ.x (fun hb => ?_) (fun hb => ?_) <;> refine AQ.es 3 ?_)) <;> (first | refine AQ.gp rfl (AOp.call rfl rfl hCk) ?_ | refine AQ.k ?_) <;> refine AQ.es 3 ?_ <;> (refine AQ.es 3 ?_) <;> (first | refine AQ.gp rfl (AOp.call rfl rfl hSz) ?_ | refine AQ.k ?_) <;> refine AQ.es 3 ?_ <;> (refine AQ.es 3 ?_) <;> (first | refine AQ.gp rfl (AOp.call rfl rfl hCo) ?_ | refine AQ.k ?_) <;> refine AQ.es 4 ?_ <;> (first | refine AQ.gp rfl (AOp.call rfl rfl hP) ?_ | refine AQ.k ?_) <;> (first | refine AQ.gp rfl (AOp.mul rfl rfl (by omega)) ?_ | refine AQ.k ?_) <;> refine AQ.es 2 ?_ <;> refine AQ.nil ?_) | refine AW.re 2 2 ?_ | refine AW.jt ?_ | refine AW.jj (fun hb => ?_) (fun hb => ?_) | refine AW.go ?_ | fail)
      all_goals try (exfalso; simp only [dT, dF] at *; omega)
      repeat' (first | (refine xS 3 3 ?_; refine AL.callQ rfl rfl hQ rfl ?_ ?_; rotate_left; rintro _ _ ⟨_, e, _⟩; cases e; rintro _ _ ⟨lg, e, rfl⟩; injection e with e; subst e <;> refine AL.es 5 ?_ <;> refine AL.nil ?_) | refine AW.re 4 5 ?_ | fail)
      exact AW.retv rfl ⟨_, !lg, rfl, rfl, fun _ => ⟨N, hS, hp4, rfl⟩⟩
    ·rw [if_neg hz] at hSz
     refine Tri.enter 58 Tryz.func24 rfl rfl rfl rfl fun Fr w0 => ?_
     repeat' (first | (refine AW.r 0 ?_; refine AL.d (AOp.box_ro rfl rfl) ?_; refine AL.d (AOp.box_ro rfl rfl) ?_; refine xN 2 ?_) | (refine AW.dq 1 ?_; refine AQ.es 1 ?_; refine AQ.p rfl (AOp.call rfl rfl hVS) ?_; refine AQ.es 2 ?_; refine AQ.es 4 ?_; refine AQ.gp rfl (AOp.call rfl rfl hP) ?_; refine AQ.es 3 ?_; ((refine AQ.x (fun hb => ?_) (fun hb => ?_) <;> refine AQ.es 3 ?_)) <;> (first | refine AQ.gp rfl (AOp.call rfl rfl hCk) ?_ | refine AQ.k ?_) <;> refine AQ.es 3 ?_ <;> (refine AQ.es 3 ?_) <;> (first | refine AQ.gp rfl (AOp.call rfl rfl hSz) ?_ | refine AQ.k ?_) <;> refine AQ.es 3 ?_ <;> (refine AQ.es 3 ?_) <;> (refine AQ.k ?_) <;> refine AQ.es 4 ?_ <;> (refine AQ.k ?_) <;> (refine AQ.k ?_) <;> refine AQ.es 2 ?_ <;> refine AQ.nil ?_) | refine AW.re 2 2 ?_ | refine AW.jt ?_ | fail)
     all_goals try (exfalso; simp only [dT, dF] at *; omega)
     exact AW.retv rfl ⟨_, false, rfl, rfl, fun h => by cases h⟩
   ·generalize chkI f s vars = ck at *
    refine Tri.enter 58 Tryz.func24 rfl rfl rfl rfl fun Fr w0 => ?_
    repeat' (first | (refine AW.r 0 ?_; refine AL.d (AOp.box_ro rfl rfl) ?_; refine AL.d (AOp.box_ro rfl rfl) ?_; refine xN 2 ?_) | (refine AW.dq 1 ?_; refine AQ.es 1 ?_; refine AQ.p rfl (AOp.call rfl rfl hVS) ?_; refine AQ.es 2 ?_; refine AQ.es 4 ?_; refine AQ.gp rfl (AOp.call rfl rfl hP) ?_; refine AQ.es 3 ?_; ((refine AQ.x (fun hb => ?_) (fun hb => ?_) <;> refine AQ.es 3 ?_)) <;> (first | (exfalso; simp only [dT, dF, lM, bne_iff_ne, ne_eq, bne_eq_false_iff_eq, beq_iff_eq, beq_eq_false_iff_ne] at *; omega) | refine AQ.gp rfl (AOp.call rfl rfl hCk) ?_) <;> refine AQ.es 3 ?_ <;> ((refine AQ.x (fun hb => ?_) (fun hb => ?_) <;> refine AQ.es 3 ?_)) <;> (first | (exfalso; simp only [dT, dF, lM, bne_iff_ne, ne_eq, bne_eq_false_iff_eq, beq_iff_eq, beq_eq_false_iff_ne] at *; omega) | refine AQ.k ?_) <;> refine AQ.es 3 ?_ <;> (refine AQ.es 3 ?_) <;> (refine AQ.k ?_) <;> refine AQ.es 4 ?_ <;> (refine AQ.k ?_) <;> (refine AQ.k ?_) <;> refine AQ.es 2 ?_ <;> refine AQ.nil ?_) | refine AW.re 2 2 ?_ | refine AW.jt ?_ | fail)
    all_goals try (exfalso; simp only [dT, dF, bne_iff_ne, ne_eq, bne_eq_false_iff_eq] at *; omega)
    exact AW.retv rfl ⟨_, false, rfl, rfl, fun h => by cases h⟩
  ·refine Tri.enter 58 Tryz.func24 rfl rfl rfl rfl fun Fr w0 => ?_
   repeat' (first | (refine AW.r 0 ?_; refine AL.d (AOp.box_ro rfl rfl) ?_; refine AL.d (AOp.box_ro rfl rfl) ?_; refine xN 2 ?_) | (refine AW.dq 1 ?_; refine AQ.es 1 ?_; refine AQ.p rfl (AOp.call rfl rfl hVS) ?_; refine AQ.es 2 ?_; refine AQ.es 4 ?_; refine AQ.gp rfl (AOp.call rfl rfl hP) ?_; refine AQ.es 3 ?_; ((refine AQ.x (fun hb => ?_) (fun hb => ?_) <;> refine AQ.es 3 ?_)) <;> (first | (exfalso; simp only [dT, dF, lM, bne_iff_ne, ne_eq, bne_eq_false_iff_eq, beq_iff_eq, beq_eq_false_iff_ne] at *; omega) | refine AQ.k ?_) <;> refine AQ.es 3 ?_ <;> (refine AQ.es 3 ?_) <;> (refine AQ.k ?_) <;> refine AQ.es 3 ?_ <;> (refine AQ.es 3 ?_) <;> (refine AQ.k ?_) <;> refine AQ.es 4 ?_ <;> (refine AQ.k ?_) <;> (refine AQ.k ?_) <;> refine AQ.es 2 ?_ <;> refine AQ.nil ?_) | refine AW.re 2 2 ?_ | refine AW.jt ?_ | fail)
   all_goals try (exfalso; simp only [dT, dF] at *; omega)
   exact AW.retv rfl ⟨_, false, rfl, rfl, fun h => by cases h⟩
theorem means_ofP (M : Nat) (hM : 5001 < M) (f g : GFml) (s : GStr) (hf : f.Ok) (hg : g.Ok) (hs : s.Ok) (hv : validF f = true) (hw : validF g = true) (hpf : plF f = true) (hpg : plF g = true) (n1 : ndF f ≤ 1500) (n2 : ndF g ≤ 1500) (hfr : ∀ x ∈ frF g, x ∈ frF f) (hoc : ∀ y, y ∈ ocF g [] [] → y ∈ ocF f [] [])
  (hsem : ∀ N (t : List Int), 1 ≤ N → sem N M g (strT N s) ((frF f).zip t) = sem N M f (strT N s) ((frF f).zip t)) : Tri Tryz.prog 15 [f.st, g.st, s.av] [] (D (.bool true) []) := by
 have hL := less_of f g hf hg hv hw n1 n2 hfr hoc
 have hF := law_free0 f hf (validF_shs hv) (by omega)
 have hEf := fun h => law_evaluatedP M hM f s (frF f) hf hs hv hpf n1 h
 have hEg := fun h => law_evaluatedP M hM g s (frF f) hg hs hw hpg n2 h
 generalize frF f = vars at *
 have hvlen : ((vars.map AV.str).length : Int) = vars.length := by simp
 by_cases h4 : vars.length ≤ 4
 ·have hEf := hEf (by omega)
  have hEg := hEg (by omega)
  refine Tri.enter 46 Tryz.func15 rfl rfl rfl rfl fun Fr w0 => ?_
  repeat' (first | (refine AW.r 0 ?_; refine AL.d (AOp.box_ro rfl rfl) ?_; refine AL.d (AOp.box_ro rfl rfl) ?_; refine AL.d (AOp.box_ro rfl rfl) ?_; refine xN 1 ?_) | (refine xS 1 2 ?_; refine AL.d (AOp.call rfl rfl hL) ?_; refine xN 1 ?_) | (refine xS 3 1 ?_; refine AL.d (AOp.call_nil2 rfl rfl hF) ?_; refine xN 1 ?_) | refine AW.re 4 3 ?_ | refine AW.jf ?_ | refine AW.jj (fun hb => ?_) (fun hb => ?_) | refine AW.go ?_ | fail)
  all_goals try (exfalso; simp only [dT, dF] at *; omega)
  repeat' (first | (refine xS 6 3 ?_; refine AL.callQ rfl rfl hEf rfl ?_ ?_; rotate_left; rintro _ _ ⟨_, _, e, _⟩; cases e; rintro _ _ ⟨v1, b1, e, rfl, hq1⟩; injection e with e; subst e <;> refine AL.es 5 ?_ <;> refine AL.nil ?_) | refine AW.go ?_ | fail)
  repeat' (first | (refine xS 7 3 ?_; refine AL.callQ rfl rfl hEg rfl ?_ ?_; rotate_left; rintro _ _ ⟨_, _, e, _⟩; cases e; rintro _ _ ⟨v2, b2, e, rfl, hq2⟩; injection e with e; subst e <;> refine AL.es 5 ?_ <;> refine AL.nil ?_) | refine AW.go ?_ | fail)
  cases b1 with
  | false =>
   repeat' (first | (refine xS 8 3 ?_; refine AL.es 4 ?_; refine AL.es 2 ?_; refine AL.gs ?_; refine xN 2 ?_) | fail)
   exact AW.retv rfl ⟨rfl, rfl⟩
  | true =>
   cases b2 with
   | false =>
    repeat' (first | (refine xS 8 3 ?_; refine AL.es 4 ?_; refine AL.es 2 ?_; refine AL.gs ?_; refine xN 2 ?_) | fail)
    exact AW.retv rfl ⟨rfl, rfl⟩
   | true =>
    obtain ⟨N, s1, p1, e1⟩ := hq1 rfl
    obtain ⟨N', s2, p2, e2⟩ := hq2 rfl
    obtain rfl : N = N' := by have := s1.size; have := s2.size; omega
    rw [qryL_eq (fun t => hsem N t s1.n1)] at e2
    have hST := ref_SameT (qryL N M f (strT N s) vars (N ^ vars.length)) (by have := qryL_len N M f (strT N s) vars (N ^ vars.length); omega) (fun t ht => by rw [qryL_len2 _ _ _ _ _ _ t ht]; omega)
    rw [← e1] at e2
    subst e2
    rw [← e1] at hST
    repeat' (first | (refine xS 8 3 ?_; refine AL.es 4 ?_; refine AL.es 2 ?_; ((refine AL.gd ?_; refine AL.d (AOp.call rfl rfl hST) ?_)) <;> refine AL.es 2 ?_ <;> refine AL.nil ?_) | fail)
    exact AW.retv rfl ⟨rfl, rfl⟩
 ·refine Tri.enter 46 Tryz.func15 rfl rfl rfl rfl fun Fr w0 => ?_
  repeat' (first | (refine AW.r 0 ?_; refine AL.d (AOp.box_ro rfl rfl) ?_; refine AL.d (AOp.box_ro rfl rfl) ?_; refine AL.d (AOp.box_ro rfl rfl) ?_; refine xN 1 ?_) | (refine xS 1 2 ?_; refine AL.d (AOp.call rfl rfl hL) ?_; refine xN 1 ?_) | (refine xS 3 1 ?_; refine AL.d (AOp.call_nil2 rfl rfl hF) ?_; refine xN 1 ?_) | refine AW.re 4 3 ?_ | refine AW.re 5 1 ?_ | refine AW.jf ?_ | refine AW.jj (fun hb => ?_) (fun hb => ?_) | refine AW.go ?_ | fail)
  all_goals try (exfalso; simp only [dT, dF] at *; omega)
  exact AW.retv rfl ⟨rfl, rfl⟩
theorem law_NormPrenex (t : TypeId) (f : GFml) (s : GStr) (ho : f.Ok) (hs : s.Ok) : Tri Tryz.prog 6 [f.st, s.av] [TB t] (D (.bool true) [TB t]) := by
 have hF := few_one 600 (by omega) f ho
 have hFS := (law_FewS s hs).pureE [TB t]
 have hAl := alive
 by_cases hfew : wFs 600 [f] 0 ≤ 600
 ·rw [decide_eq_true hfew] at hF
  have hnd := few_nd hfew (by omega)
  have hV := ref_Valid f ho (by omega)
  have hN := n_PrenexF t f ho (by omega)
  unfold preP at hN
  have hS := ref_Same _ noF noF (Nat.le_refl _) noF_ok noF_ok
  rw [eqF_refl] at hS
  cases hv : validF f with
  | false =>
   rw [hv] at hV hN
   rw [cond_false] at hN
   obtain ⟨k, ar, nm, vars, args, kids⟩ := f
   refine Tri.enter 95 Tryz.func6 rfl rfl rfl rfl fun Fr w0 => ?_
   repeat' (first | (refine AW.r 0 ?_; refine AL.d (AOp.box_ro rfl rfl) ?_; refine AL.d (AOp.box_ro rfl rfl) ?_; refine xN 1 ?_) | (refine AW.r 1 ?_; refine AL.d AOp.la ?_; refine AL.d (AOp.lit (e := 25) (sz := 6) (by kernel_rfl) rfl rfl rfl (P_one rfl) (by decide)) ?_; refine AL.d (AOp.call rfl rfl (hF.pure _)) ?_; refine AL.es 2 ?_; ((refine AL.gd ?_; (refine AL.d AOp.la ?_))) <;> ((refine AL.gd ?_; (refine AL.d (AOp.lit (e := 28) (sz := 2) (by kernel_rfl) rfl rfl rfl (P_one rfl) (by decide)) ?_))) <;> ((refine AL.gd ?_; ((refine AL.callQ rfl rfl hFS rfl ?_ ?_; rotate_left; rintro _ _ ⟨_, ⟨_, e, _⟩, _⟩; cases e; rintro _ _ ⟨_, ⟨⟨b, e, rfl⟩, rfl⟩⟩; injection e with e; subst e; cases b)))) <;> refine AL.es 2 ?_ <;> refine AL.nil ?_) | (refine AW.r 2 ?_; refine AL.d (AOp.call rfl rfl (hAl.pure _)) ?_; refine xN 1 ?_) | refine AW.jt ?_ | refine AW.jf ?_ | refine AW.go ?_ | fail)
   ·exact AW.retv rfl ⟨rfl, rfl⟩
   repeat' (first | (refine AW.r 3 ?_; refine AL.d AOp.la ?_; refine AL.d (AOp.call rfl rfl hN) ?_; refine AL.es 3 ?_; refine AL.alloc_z (t := 25) zF (by kernel_rfl) rfl rfl fun r5 => ?_; refine AL.sl 0 ?_; refine xN 1 ?_) | (refine AW.r 4 ?_; refine AL.d AOp.la ?_; refine AL.d (AOp.call rfl rfl (hV.pure _)) ?_; refine xN 2 ?_) | (refine xS 5 3 ?_; ((refine AL.gd ?_; (refine AL.d (AOp.lw 0) ?_))) <;> ((refine AL.gd ?_; refine AL.d (AOp.build (pl := [(0, 1), (1, 1), (2, 1), (3, 1), (4, 1), (5, 1)]) (z := .st [.int .i64 0, .int .i64 0, .str ⟨#[]⟩, .sl [], .sl [], .sl []]) (by kernel_rfl) rfl rfl rfl) ?_)) <;> ((refine AL.gd ?_; (refine AL.d (AOp.call rfl rfl (hS.pure _)) ?_))) <;> refine AL.es 2 ?_ <;> ((refine AL.gd ?_; (refine AL.d (AOp.call rfl rfl (hAl.pure _)) ?_))) <;> refine AL.es 2 ?_ <;> refine AL.nil ?_) | refine AW.jt ?_ | fail)
   all_goals exact AW.ret_drop rfl (by repeat' (first | exact List.Sublist.refl _ | refine .cons _ ?_ | fail)) ⟨rfl, rfl⟩
  | true =>
   rw [hv] at hV hN
   rw [cond_true] at hN
   have hsh := validF_shs hv
   have hFi := ref_First _ f (Nat.le_refl _) ho
   rw [fi_pl f hsh] at hFi
   cases hp : plF f with
   | false =>
    rw [hp] at hFi hN
    rw [cond_false] at hN
    obtain ⟨k, ar, nm, vars, args, kids⟩ := f
    refine Tri.enter 95 Tryz.func6 rfl rfl rfl rfl fun Fr w0 => ?_
    repeat' (first | (refine AW.r 0 ?_; refine AL.d (AOp.box_ro rfl rfl) ?_; refine AL.d (AOp.box_ro rfl rfl) ?_; refine xN 1 ?_) | (refine AW.r 1 ?_; refine AL.d AOp.la ?_; refine AL.d (AOp.lit (e := 25) (sz := 6) (by kernel_rfl) rfl rfl rfl (P_one rfl) (by decide)) ?_; refine AL.d (AOp.call rfl rfl (hF.pure _)) ?_; refine AL.es 2 ?_; ((refine AL.gd ?_; (refine AL.d AOp.la ?_))) <;> ((refine AL.gd ?_; (refine AL.d (AOp.lit (e := 28) (sz := 2) (by kernel_rfl) rfl rfl rfl (P_one rfl) (by decide)) ?_))) <;> ((refine AL.gd ?_; ((refine AL.callQ rfl rfl hFS rfl ?_ ?_; rotate_left; rintro _ _ ⟨_, ⟨_, e, _⟩, _⟩; cases e; rintro _ _ ⟨_, ⟨⟨b, e, rfl⟩, rfl⟩⟩; injection e with e; subst e; cases b)))) <;> refine AL.es 2 ?_ <;> refine AL.nil ?_) | (refine AW.r 2 ?_; refine AL.d (AOp.call rfl rfl (hAl.pure _)) ?_; refine xN 1 ?_) | refine AW.jt ?_ | refine AW.jf ?_ | refine AW.go ?_ | fail)
    ·exact AW.retv rfl ⟨rfl, rfl⟩
    repeat' (first | (refine AW.r 3 ?_; refine AL.d AOp.la ?_; refine AL.d (AOp.call rfl rfl hN) ?_; refine AL.es 3 ?_; refine AL.alloc_z (t := 25) zF (by kernel_rfl) rfl rfl fun r5 => ?_; refine AL.sl 0 ?_; refine xN 1 ?_) | (refine AW.r 4 ?_; refine AL.d AOp.la ?_; refine AL.d (AOp.call rfl rfl (hV.pure _)) ?_; refine xN 2 ?_) | (refine AW.r 6 ?_; refine AL.d AOp.la ?_; refine AL.d (AOp.call rfl rfl (hFi.pure _)) ?_; refine xN 2 ?_) | (refine xS 7 3 ?_; ((refine AL.gd ?_; (refine AL.d (AOp.lw 0) ?_))) <;> ((refine AL.gd ?_; refine AL.d (AOp.build (pl := [(0, 1), (1, 1), (2, 1), (3, 1), (4, 1), (5, 1)]) (z := .st [.int .i64 0, .int .i64 0, .str ⟨#[]⟩, .sl [], .sl [], .sl []]) (by kernel_rfl) rfl rfl rfl) ?_)) <;> ((refine AL.gd ?_; (refine AL.d (AOp.call rfl rfl (hS.pure _)) ?_))) <;> refine AL.es 2 ?_ <;> ((refine AL.gd ?_; (refine AL.d (AOp.call rfl rfl (hAl.pure _)) ?_))) <;> refine AL.es 2 ?_ <;> refine AL.nil ?_) | refine AW.jt ?_ | refine AW.jf ?_ | fail)
    all_goals exact AW.ret_drop rfl (by repeat' (first | exact List.Sublist.refl _ | refine .cons _ ?_ | fail)) ⟨rfl, rfl⟩
   | true =>
    rw [hp] at hFi hN
    rw [cond_true] at hN
    have G := prG_facts f ho (by omega) hsh hp
    have hval := prG_valid f ho (by omega) hv hp
    have hGn := G.nd
    have hGd := G.dp
    have hGo := G.ok
    have hd : dpF f ≤ 60 := by
     unfold validF at hv
     simp only [bA, dT] at hv
     have := ct_dp f 61
     omega
    have hC := ref_Count 60 f (by omega) ho (by omega)
    have c1 := (ct_dp f 60).2 (by omega)
    have c2 := (ct_dp f 60).1
    rw [c1] at hC
    have c3 : (ctF f 60).2 = dpF f := by omega
    rw [c3] at hC
    have hbl := bdF_len f hsh
    have hB := ref_Bound _ f (Nat.le_refl _) ho (by omega)
    have hM := fun h => means_ofP 6000 (by omega) f (prG f) s ho hGo hs hv h hp G.pl (by omega) (by omega) (fun x hx => (frF_fv f x).2 (G.fv x ((frF_fv _ x).1 hx))) (fun y hy => by rw [← G.oc]; exact hy) (fun N t hN => G.sem N 6000 _ _ hN)
    have hPr := ref_PrenexB (prG f) hGo G.sh
    rw [G.pr] at hPr
    unfold fitF at hN
    have hbv : ((bdF f).map AV.str).length = (bdF f).length := lM _
    clear hfew G c1 c2 c3 hbl
    generalize prG f = g at *
    generalize hn1 : ndF f = m1 at *
    generalize hd1 : dpF f = d1 at *
    generalize bdF f = B at *
    cases hw : validF g with
    | true =>
     have hM := hM hw
     rw [hw, cond_true] at hN
     obtain ⟨k', ar', nm', vars', args', kids'⟩ := g
     obtain ⟨k, ar, nm, vars, args, kids⟩ := f
     refine Tri.enter 95 Tryz.func6 rfl rfl rfl rfl fun Fr w0 => ?_
     repeat' (first | (refine AW.r 0 ?_; refine AL.d (AOp.box_ro rfl rfl) ?_; refine AL.d (AOp.box_ro rfl rfl) ?_; refine xN 1 ?_) | (refine AW.r 1 ?_; refine AL.d AOp.la ?_; refine AL.d (AOp.lit (e := 25) (sz := 6) (by kernel_rfl) rfl rfl rfl (P_one rfl) (by decide)) ?_; refine AL.d (AOp.call rfl rfl (hF.pure _)) ?_; refine AL.es 2 ?_; ((refine AL.gd ?_; (refine AL.d AOp.la ?_))) <;> ((refine AL.gd ?_; (refine AL.d (AOp.lit (e := 28) (sz := 2) (by kernel_rfl) rfl rfl rfl (P_one rfl) (by decide)) ?_))) <;> ((refine AL.gd ?_; ((refine AL.callQ rfl rfl hFS rfl ?_ ?_; rotate_left; rintro _ _ ⟨_, ⟨_, e, _⟩, _⟩; cases e; rintro _ _ ⟨_, ⟨⟨b, e, rfl⟩, rfl⟩⟩; injection e with e; subst e; cases b)))) <;> refine AL.es 2 ?_ <;> refine AL.nil ?_) | (refine AW.r 2 ?_; refine AL.d (AOp.call rfl rfl (hAl.pure _)) ?_; refine xN 1 ?_) | refine AW.jt ?_ | refine AW.jf ?_ | refine AW.go ?_ | fail)
     ·exact AW.retv rfl ⟨rfl, rfl⟩
     repeat' (first | (refine AW.r 3 ?_; refine AL.d AOp.la ?_; refine AL.d (AOp.call rfl rfl hN) ?_; refine AL.es 3 ?_; refine AL.alloc_z (t := 25) zF (by kernel_rfl) rfl rfl fun r5 => ?_; refine AL.sl 0 ?_; refine xN 1 ?_) | (refine AW.r 4 ?_; refine AL.d AOp.la ?_; refine AL.d (AOp.call rfl rfl (hV.pure _)) ?_; refine xN 2 ?_) | (refine AW.r 6 ?_; refine AL.d AOp.la ?_; refine AL.d (AOp.call rfl rfl (hFi.pure _)) ?_; refine xN 2 ?_) | (refine AW.r 8 ?_; refine AL.d AOp.la ?_; refine AL.d (AOp.call rfl rfl (hC.pure _)) ?_; refine xN 5 ?_) | (refine xS 9 3 ?_; refine AL.es 3 ?_; refine AL.es 4 ?_; refine AL.gu ?_; refine AL.gu ?_; refine xN 4 ?_) | (refine xS 11 3 ?_; ((refine AL.gd ?_; (refine AL.d AOp.la ?_))) <;> ((refine AL.gd ?_; (refine AL.d (AOp.lw 0) ?_))) <;> ((refine AL.gd ?_; (refine AL.d AOp.la ?_))) <;> ((refine AL.gd ?_; (refine AL.d (AOp.call rfl rfl (hM.pure _)) ?_))) <;> refine AL.es 2 ?_ <;> ((refine AL.gd ?_; (refine AL.d (AOp.lw 0) ?_))) <;> ((refine AL.gd ?_; (refine AL.d (AOp.call rfl rfl (hPr.pure _)) ?_))) <;> refine AL.es 2 ?_ <;> ((refine AL.gd ?_; (refine AL.d (AOp.call rfl rfl (hAl.pure _)) ?_))) <;> refine AL.es 2 ?_ <;> refine AL.nil ?_) | refine AW.jf ?_ | fail)
     all_goals exact AW.ret_drop rfl (by repeat' (first | exact List.Sublist.refl _ | refine .cons _ ?_ | fail)) ⟨rfl, rfl⟩
    | false =>
     rw [hw, cond_false] at hN
     have hbig : d1 > 12 ∨ B.length > 20 := by
      rcases Nat.lt_or_ge 60 (dpF g) with h | h
      ·omega
      ·exact absurd (hval h) (by rw [hw]; decide)
     obtain ⟨k, ar, nm, vars, args, kids⟩ := f
     refine Tri.enter 95 Tryz.func6 rfl rfl rfl rfl fun Fr w0 => ?_
     repeat' (first | (refine AW.r 0 ?_; refine AL.d (AOp.box_ro rfl rfl) ?_; refine AL.d (AOp.box_ro rfl rfl) ?_; refine xN 1 ?_) | (refine AW.r 1 ?_; refine AL.d AOp.la ?_; refine AL.d (AOp.lit (e := 25) (sz := 6) (by kernel_rfl) rfl rfl rfl (P_one rfl) (by decide)) ?_; refine AL.d (AOp.call rfl rfl (hF.pure _)) ?_; refine AL.es 2 ?_; ((refine AL.gd ?_; (refine AL.d AOp.la ?_))) <;> ((refine AL.gd ?_; (refine AL.d (AOp.lit (e := 28) (sz := 2) (by kernel_rfl) rfl rfl rfl (P_one rfl) (by decide)) ?_))) <;> ((refine AL.gd ?_; ((refine AL.callQ rfl rfl hFS rfl ?_ ?_; rotate_left; rintro _ _ ⟨_, ⟨_, e, _⟩, _⟩; cases e; rintro _ _ ⟨_, ⟨⟨b, e, rfl⟩, rfl⟩⟩; injection e with e; subst e; cases b)))) <;> refine AL.es 2 ?_ <;> refine AL.nil ?_) | (refine AW.r 2 ?_; refine AL.d (AOp.call rfl rfl (hAl.pure _)) ?_; refine xN 1 ?_) | refine AW.jt ?_ | refine AW.jf ?_ | refine AW.go ?_ | fail)
     ·exact AW.retv rfl ⟨rfl, rfl⟩
     repeat' (first | (refine AW.r 3 ?_; refine AL.d AOp.la ?_; refine AL.d (AOp.call rfl rfl hN) ?_; refine AL.es 3 ?_; refine AL.alloc_z (t := 25) zF (by kernel_rfl) rfl rfl fun r5 => ?_; refine AL.sl 0 ?_; refine xN 1 ?_) | (refine AW.r 4 ?_; refine AL.d AOp.la ?_; refine AL.d (AOp.call rfl rfl (hV.pure _)) ?_; refine xN 2 ?_) | (refine AW.r 6 ?_; refine AL.d AOp.la ?_; refine AL.d (AOp.call rfl rfl (hFi.pure _)) ?_; refine xN 2 ?_) | (refine AW.r 8 ?_; refine AL.d AOp.la ?_; refine AL.d (AOp.call rfl rfl (hC.pure _)) ?_; refine xN 5 ?_) | refine AW.jf ?_ | refine AW.go ?_ | fail)
     repeat' (first | (refine xS 9 3 ?_; refine AL.es 3 ?_; ((refine AL.gx (fun hb => ?_) (fun hb => ?_) <;> refine AL.es 4 ?_)) <;> (first | refine AL.gs ?_ | (refine AL.gx (fun hb => ?_) (fun hb => ?_) <;> first | (refine AL.gd ?_; (refine AL.d AOp.la ?_)) | refine AL.gs ?_)) <;> (first | (refine AL.gd ?_; (refine AL.d (AOp.call rfl rfl (hB.pure _)) ?_)) | refine AL.gs ?_) <;> refine AL.es 4 ?_ <;> refine AL.nil ?_) | (refine AW.r 10 ?_; refine AL.d (AOp.lw 0) ?_; refine AL.d (AOp.build (pl := [(0, 1), (1, 1), (2, 1), (3, 1), (4, 1), (5, 1)]) (z := .st [.int .i64 0, .int .i64 0, .str ⟨#[]⟩, .sl [], .sl [], .sl []]) (by kernel_rfl) rfl rfl rfl) ?_ <;> (refine AL.d (AOp.call rfl rfl (hS.pure _)) ?_) <;> refine AL.es 1 ?_ <;> ((refine AL.gd ?_; (refine AL.d (AOp.call rfl rfl (hAl.pure _)) ?_))) <;> refine AL.es 2 ?_ <;> refine AL.nil ?_) | refine AW.jt ?_ | refine AW.jj (fun hb => ?_) (fun hb => ?_) | refine AW.go ?_ | fail)
     all_goals first
      | exact AW.ret_drop rfl (by repeat' (first | exact .slnil | exact List.Sublist.refl _ | refine .cons _ ?_ | fail)) ⟨rfl, rfl⟩
      | (exfalso; simp only [dT, dF, hbv] at *; omega)
 ·rw [decide_eq_false hfew] at hF
  obtain ⟨k, ar, nm, vars, args, kids⟩ := f
  refine Tri.enter 95 Tryz.func6 rfl rfl rfl rfl fun Fr w0 => ?_
  repeat' (first | (refine AW.r 0 ?_; refine AL.d (AOp.box_ro rfl rfl) ?_; refine AL.d (AOp.box_ro rfl rfl) ?_; refine xN 1 ?_) | (refine AW.r 1 ?_; refine AL.d AOp.la ?_; refine AL.d (AOp.lit (e := 25) (sz := 6) (by kernel_rfl) rfl rfl rfl (P_one rfl) (by decide)) ?_; refine AL.d (AOp.call rfl rfl (hF.pure _)) ?_; refine AL.es 2 ?_; refine AL.gs ?_; refine AL.gs ?_; refine AL.gs ?_; refine xN 2 ?_) | (refine AW.r 2 ?_; refine AL.d (AOp.call rfl rfl (hAl.pure _)) ?_; refine xN 1 ?_) | refine AW.jt ?_ | fail)
  exact AW.retv rfl ⟨rfl, rfl⟩
section
variable {H : Type} {enc : TypeId × Value → H} {w : World}
theorem rdInt (N : Nat) : Rd enc Tryz.prog w N 3 iav iOk := Rd.int' (by kernel_rfl)
theorem rdStr (N : Nat) : Rd enc Tryz.prog w N 9 AV.str strOk := Rd.str' (by kernel_rfl)
theorem rdStrs (N : Nat) : Rd enc Tryz.prog w N 22 strs (lenOk 16 strOk) := Rd.slice' (by kernel_rfl) (rdStr N)
theorem rdFml : ∀ N : Nat, Rd enc Tryz.prog w N 25 GFml.av GFml.Ok := Rd.all fun N ih =>
 Rd.of_q (RdQ.struct' (by kernel_rfl) (.cons (rdInt N).q (.cons (rdInt N).q (.cons (rdStr N).q (.cons (rdStrs N).q (.cons (rdStrs N).q (.cons (Rd.slice' (T := 23) (n := 104) (by kernel_rfl) ih).q (.nil)))))))) fun v h => by
  obtain ⟨vs, rfl, h⟩ := h
  obtain ⟨_, v1, rfl, ⟨a, rfl, ha⟩, h1⟩ := h.un
  obtain ⟨_, v2, rfl, ⟨b, rfl, hb⟩, h2⟩ := h1.un
  obtain ⟨_, v3, rfl, ⟨c, rfl, hc⟩, h3⟩ := h2.un
  obtain ⟨_, v4, rfl, ⟨d, rfl, hd⟩, h4⟩ := h3.un
  obtain ⟨_, v5, rfl, ⟨e, rfl, he⟩, h5⟩ := h4.un
  obtain ⟨_, v6, rfl, ⟨f, rfl, hf⟩, h6⟩ := h5.un
  obtain rfl := h6.un0
  exact ⟨⟨a, b, c, d, e, f⟩, by rw [GFml.av_eq]; rfl, .mk ⟨ha, hb, hc, hd, he⟩ hf.1 hf.2⟩
end
mutual
def nU : AV → Bool
 | .int k _ => !(k == .u64)
 | .bool _ => true
 | .str _ => true
 | .st fs => nUs fs
 | .sl xs => nUs xs
 | _ => false
def nUs : List AV → Bool
 | [] => true
 | x :: l => nU x && nUs l
end
mutual
theorem nU_cells {S : Rg} {w : World} : ∀ (x : AV) (cs : List Value), nU x = true → RelC S w x cs → ∀ u ∈ cs, ∀ n, u ≠ .int .u64 n
 | .int k n, cs, h, hr, u, hu, m => by
  simp only [RelC] at hr
  rw [hr, List.mem_singleton] at hu
  subst hu
  rintro ⟨⟩
  simp [nU] at h
 | .bool b, cs, h, hr, u, hu, m => by simp only [RelC] at hr; rw [hr, List.mem_singleton] at hu; subst hu; rintro ⟨⟩
 | .str s, cs, h, hr, u, hu, m => by simp only [RelC] at hr; rw [hr, List.mem_singleton] at hu; subst hu; rintro ⟨⟩
 | .st fs, cs, h, hr, u, hu, m => by
  simp only [RelC] at hr
  rw [nU] at h
  exact nUs_cells fs cs h hr u hu m
 | .sl xs, cs, h, hr, u, hu, m => by
  simp only [RelC] at hr
  obtain ⟨A, c, e, _⟩ := hr
  rw [e, List.mem_singleton] at hu
  subst hu
  rintro ⟨⟩
 | .any, _, h, _, _, _, _ => by simp [nU] at h
 | .slt _ _ _, _, h, _, _, _, _ => by simp [nU] at h
 | .osl _ _ _, _, h, _, _, _, _ => by simp [nU] at h
 | .at _, _, h, _, _, _, _ => by simp [nU] at h
 | .ref _ _, _, h, _, _, _, _ => by simp [nU] at h
 | .map _, _, h, _, _, _, _ => by simp [nU] at h
 | .fn _ _, _, h, _, _, _, _ => by simp [nU] at h
 | .yl _ _ _ _, _, h, _, _, _, _ => by simp [nU] at h
 | .tup _, _, h, _, _, _, _ => by simp [nU] at h
 | .val _, _, h, _, _, _, _ => by simp [nU] at h
theorem nUs_cells {S : Rg} {w : World} : ∀ (xs : List AV) (cs : List Value), nUs xs = true → RelCs S w xs cs → ∀ u ∈ cs, ∀ n, u ≠ .int .u64 n
 | [], cs, h, hr, u, hu, m => by simp only [RelCs] at hr; rw [hr] at hu; cases hu
 | x :: xs, cs, h, hr, u, hu, m => by
  simp only [RelCs] at hr
  obtain ⟨c1, c2, e, h1, h2⟩ := hr
  rw [nUs, bA] at h
  rw [e] at hu
  rcases List.mem_append.1 hu with hu | hu
  ·exact nU_cells x c1 h.1 h1 u hu m
  ·exact nUs_cells xs c2 h.2 h2 u hu m
end
section
variable {S S' : Rg} {w : World} {G : Nat}
mutual
theorem nU_mv (hG : ∀ o v, w.cell? ⟨G, o, none⟩ = some v → ∃ n, v = .int .u64 n) (hS : ∀ b o, S' b o → S b o ∨ b = G) : ∀ (x : AV) (cs : List Value), nU x = true → RelC S w x cs → RelC S' w x cs
 | .int k n, cs, h, hr => by simpa [RelC] using hr
 | .bool b, cs, h, hr => by simpa [RelC] using hr
 | .str s, cs, h, hr => by simpa [RelC] using hr
 | .st fs, cs, h, hr => by
  simp only [RelC] at hr ⊢
  rw [nU] at h
  exact nUs_mv hG hS fs cs h hr
 | .sl xs, cs, h, hr => by
  simp only [RelC] at hr ⊢
  rw [nU] at h
  obtain ⟨A, c, h1, h2, h3, h4⟩ := hr
  refine ⟨A, c, h1, h2, h3, fun hx => ?_⟩
  obtain ⟨b, o, sz, e, hr⟩ := h4 hx
  exact ⟨b, o, sz, e, nU_row hG hS xs sz b o h hr⟩
 | .any, _, h, _ => by simp [nU] at h
 | .slt _ _ _, _, h, _ => by simp [nU] at h
 | .osl _ _ _, _, h, _ => by simp [nU] at h
 | .at _, _, h, _ => by simp [nU] at h
 | .ref _ _, _, h, _ => by simp [nU] at h
 | .map _, _, h, _ => by simp [nU] at h
 | .fn _ _, _, h, _ => by simp [nU] at h
 | .yl _ _ _ _, _, h, _ => by simp [nU] at h
 | .tup _, _, h, _ => by simp [nU] at h
 | .val _, _, h, _ => by simp [nU] at h
theorem nUs_mv (hG : ∀ o v, w.cell? ⟨G, o, none⟩ = some v → ∃ n, v = .int .u64 n) (hS : ∀ b o, S' b o → S b o ∨ b = G) : ∀ (xs : List AV) (cs : List Value), nUs xs = true → RelCs S w xs cs → RelCs S' w xs cs
 | [], cs, h, hr => by simpa [RelCs] using hr
 | x :: xs, cs, h, hr => by
  simp only [RelCs] at hr ⊢
  obtain ⟨c1, c2, e, h1, h2⟩ := hr
  rw [nUs, bA] at h
  exact ⟨c1, c2, e, nU_mv hG hS x c1 h.1 h1, nUs_mv hG hS xs c2 h.2 h2⟩
theorem nU_row (hG : ∀ o v, w.cell? ⟨G, o, none⟩ = some v → ∃ n, v = .int .u64 n) (hS : ∀ b o, S' b o → S b o ∨ b = G) : ∀ (xs : List AV) (sz b o : Nat), nUs xs = true → RelRow S w xs sz b o → RelRow S' w xs sz b o
 | [], _, _, _, _, _ => by simp [RelRow]
 | x :: xs, sz, b, o, h, hr => by
  simp only [RelRow] at hr ⊢
  rw [nUs, bA] at h
  obtain ⟨⟨cs, h1, h2, h3⟩, h4⟩ := hr
  refine ⟨⟨cs, h1, nU_mv hG hS x cs h.1 h2, fun j u hj => ?_⟩, nU_row hG hS xs sz b (o + sz) h.2 h4⟩
  obtain ⟨k1, k2⟩ := h3 j u hj
  refine ⟨fun hs => ?_, k2⟩
  rcases hS _ _ hs with hs | rfl
  ·exact k1 hs
  ·obtain ⟨n, e⟩ := hG _ _ k2
   exact nU_cells x cs h.1 h2 u (lG hj) n e
end
end
theorem nU_strs : ∀ l : List ByteArray, nUs (l.map AV.str) = true
 | [] => rfl
 | x :: l => by rw [List.map_cons, nUs, nU_strs l]; rfl
mutual
theorem nU_fmlA : ∀ f : GFml, nU f.av = true
 | ⟨k, ar, nm, vars, args, kids⟩ => by
  rw [GFml.av_eq]
  simp only [GFml.st, nU, nUs, strs, nU_strs, nU_fmlL kids]
  rfl
theorem nU_fmlL : ∀ l : List GFml, nUs (l.map GFml.av) = true
 | [] => rfl
 | x :: l => by rw [List.map_cons, nUs, nU_fmlA x, nU_fmlL l]; rfl
end
theorem nU_fml (f : GFml) : nU f.st = true := by
 rw [← GFml.av_eq]; exact nU_fmlA f
def TabAt (w : World) (t : TypeId) : Prop := ∃ cs : Array Value, w.heap[tabG]? = some (.cells cs t (0, 0)) ∧ cs.toList = Lib.pow10Tab.map fun z => Value.int .u64 z
theorem calls_TB {f : FuncId} {args : List AV} {vs : List Value} {t : TypeId} {w : World} (h : Tri Tryz.prog f args [TB t] (D (.bool true) [TB t])) (hr : RelVs NoRg w args vs) (hu : ∀ x ∈ args, nU x = true) (hc : TabAt w t) :
  Calls Tryz.prog f vs.toArray w (fun e W' => e = .returned (.bool true) ∧ Below w.heap.size w W') := by
 obtain ⟨cs, hh, hl⟩ := hc
 have hcs : ∀ (i : Nat) x, (Lib.pow10Tab.map (AV.int .u64))[i]? = some x → ∃ n, x = .int .u64 n ∧ cs[i]? = some (.int .u64 n) := fun i x hx => by
  rw [List.getElem?_map] at hx
  cases hz : Lib.pow10Tab[i]? with
  | none => rw [hz] at hx; cases hx
  | some z =>
   rw [hz] at hx
   refine ⟨z, (Option.some.inj hx).symm, ?_⟩
   rw [← Array.getElem?_toList, hl, List.getElem?_map, hz]; rfl
 have hlen : cs.size = (Lib.pow10Tab.map (AV.int .u64)).length := by rw [← Array.length_toList, hl, lM, lM]
 have hst : St NoRg [TB t] w := {
  nodup := by simp [TB, Own.blk]
  lt := fun o ho b hb => by
   rw [List.mem_singleton.1 ho] at hb
   simp only [TB, Own.blk, Option.some.injEq] at hb
   subst hb
   exact (Array.getElem?_eq_some_iff.1 hh).1
  fr := fun o ho b hb off h => h
  frlt := fun b o h => h.elim
  rel := fun o ho => by
   rw [List.mem_singleton.1 ho]
   refine ⟨cs, hh, hlen, fun i x hx => ?_⟩
   obtain ⟨n, rfl, hi⟩ := hcs i x hx
   exact ⟨_, hi, by simp [RelC]⟩ }
 have hG : ∀ o v, w.cell? ⟨tabG, o, none⟩ = some v → ∃ n, v = .int .u64 n := fun o v hv => by
  have e : w.cell? ⟨tabG, o, none⟩ = cs[o]? := cell_of_row w tabG o cs t (0, 0) hh
  rw [e, ← Array.getElem?_toList, hl, List.getElem?_map] at hv
  cases hz : Lib.pow10Tab[o]? with
  | none => rw [hz] at hv; cases hv
  | some z => rw [hz] at hv; exact ⟨z, (Option.some.inj hv).symm⟩
 have hS : ∀ b o, Sof NoRg [TB t] b o → NoRg b o ∨ b = tabG := by
  rintro b o (h | ⟨x, hx, hr⟩)
  ·exact .inl h
  ·rw [List.mem_singleton.1 hx] at hr; exact .inr hr
 have hmv : ∀ (l : List AV) (us : List Value), (∀ x ∈ l, nU x = true) → RelVs NoRg w l us → RelVs (Sof NoRg [TB t]) w l us := by
  intro l
  induction l with
  | nil => intro us _ h; simpa [RelVs] using h
  | cons x l ih =>
   intro us hx h
   simp only [RelVs] at h ⊢
   obtain ⟨u, us', h1, h2, h3, h4⟩ := h
   exact ⟨u, us', h1, nU_mv hG hS x _ (hx x (by simp)) h2, h3, ih us' (fun y hy => hx y (by simp [hy])) h4⟩
 refine (h.2 NoRg w vs hst (hmv args vs hu hr)).mono fun e W' he => ?_
 obtain ⟨x, ah, ⟨rfl, rfl⟩, hrel, hst', hext, _⟩ := he
 obtain ⟨v, rfl, hv⟩ := hrel
 refine ⟨?_, ?_⟩
 ·obtain ⟨hc, hsh⟩ := hv
  simp only [RelC] at hc
  cases v <;> simp [Value.cells] at hc <;> simp_all [Shape]
 ·refine ⟨hext.os, hext.tape, hext.output, hext.size, fun k hk => ?_⟩
  by_cases e : k = tabG
  ·subst e
   obtain ⟨cs', h1, h2, h3⟩ := hst'.rel (TB t) (List.mem_singleton.2 rfl)
   rw [h1, hh]
   have : cs' = cs := by
    apply Array.ext_getElem?
    intro i
    by_cases hi : i < (Lib.pow10Tab.map (AV.int .u64)).length
    ·obtain ⟨v, hv1, hv2⟩ := h3 i _ (List.getElem?_eq_getElem hi)
     obtain ⟨n, e, hi2⟩ := hcs i _ (List.getElem?_eq_getElem hi)
     rw [e] at hv2
     simp only [RelC, List.cons.injEq, and_true] at hv2
     rw [hv1, hi2, hv2]
    ·rw [Array.getElem?_eq_none (by omega), Array.getElem?_eq_none (by omega)]
   rw [this]
  ·exact hext.blk k hk fun o ho => by
    obtain ⟨x, hx, hr⟩ := ho
    rw [List.mem_singleton.1 hx] at hr
    exact e hr
theorem TabAt_of {W : World} {d1 d2 : String × DataW Unit} {k1 : String} {d3 : DataW Unit} (he : k1 = "internal/strconv.uint64pow10") (hd : d3 = Lib.tabData .u64 Lib.pow10Tab) (h : laidMet Tryz.prog [d1, d2, (k1, d3)] W) : ∃ t, TabAt W t := by
 subst he hd
 obtain ⟨n1, e1⟩ := d1
 obtain ⟨n2, e2⟩ := d2
 obtain ⟨ps, hLV, _, hcell⟩ := h
 simp only [DataW.LaidVars] at hLV
 obtain ⟨g1, t1, cs1, fu1, p1, q1, _, _, _, _, ⟨g2, t2, cs2, fu2, p2, q2, _, _, _, _, ⟨g3, t3, cs3, fu3, p3, q3, hg, hty, hv, htr, rfl, rfl⟩, rfl⟩, rfl⟩ := hLV
 obtain rfl := Option.some.inj (tabG_eq.symm.trans hg)
 have hty' : (Tryz.prog.globals[tabG]?).map (·.type) = some 253 := by kernel_rfl
 obtain rfl := Option.some.inj (hty'.symm.trans hty)
 have hcs := Lib.cells_of_tab (n := 20) (e := 238) (by kernel_rfl) (by kernel_rfl) (by kernel_rfl) (by kernel_rfl) htr
 have hsz : cs3.size = 20 := by rw [← Array.length_toList, hcs, lM, Lib.pow10Tab_length]
 obtain ⟨⟨c, t, hh⟩, _⟩ := hcell tabG 0 (List.mem_append_right _ (List.mem_append_right _ (List.mem_append_left _ (List.mem_append_left _ (List.mem_map.2 ⟨0, by rw [hsz]; simp, rfl⟩)))))
 refine ⟨t, cs3, ?_, hcs⟩
 unfold World.var? at hv
 rw [tabG_eq, Option.bind_some, hh] at hv
 rw [hh, Option.some.inj hv]
section
variable {H : Type} {enc : TypeId × Value → H} {w : World}
theorem rdInts (N : Nat) : Rd enc Tryz.prog w N 52 ints (lenOk 8 iOk) := Rd.slice' (by kernel_rfl) (rdInt N)
theorem rdIntss (N : Nat) : Rd enc Tryz.prog w N 48 (fun l => .sl (l.map ints)) (lenOk 24 (lenOk 8 iOk)) := Rd.slice' (by kernel_rfl) (rdInts N)
theorem rdRel : ∀ N : Nat, Rd enc Tryz.prog w N 78 GRel.av GRel.Ok := Rd.of_succ fun N =>
 Rd.of_q (RdQ.struct' (by kernel_rfl) (.cons (rdStr N).q (.cons (rdInt N).q (.cons (rdIntss N).q (.nil))))) fun v h => by
  obtain ⟨vs, rfl, h⟩ := h
  obtain ⟨_, v1, rfl, ⟨a, rfl, ha⟩, h1⟩ := h.un
  obtain ⟨_, v2, rfl, ⟨b, rfl, hb⟩, h2⟩ := h1.un
  obtain ⟨_, v3, rfl, ⟨c, rfl, hc⟩, h3⟩ := h2.un
  obtain rfl := h3.un0
  exact ⟨⟨a, b, c⟩, rfl, ha, hb, hc⟩
theorem rdStr_ : ∀ N : Nat, Rd enc Tryz.prog w N 28 GStr.av GStr.Ok := Rd.of_succ fun N =>
 Rd.of_q (RdQ.struct' (by kernel_rfl) (.cons (rdInt N).q (.cons (Rd.slice' (T := 26) (n := 48) (by kernel_rfl) (rdRel N)).q (.nil)))) fun v h => by
  obtain ⟨vs, rfl, h⟩ := h
  obtain ⟨_, v1, rfl, ⟨a, rfl, ha⟩, h1⟩ := h.un
  obtain ⟨_, v2, rfl, ⟨b, rfl, hb⟩, h2⟩ := h1.un
  obtain rfl := h2.un0
  exact ⟨⟨a, b⟩, rfl, ha, hb⟩
end
theorem nUs_all {α : Type} {g : α → AV} : ∀ {l : List α}, (∀ x, nU (g x) = true) → nUs (l.map g) = true
 | [], _ => rfl
 | x :: l, h => by rw [List.map_cons, nUs, h x, Bool.true_and]; exact nUs_all h
theorem nU_str (s : GStr) : nU s.av = true := by
 have h1 : ∀ t : List Int, nU (ints t) = true := fun t => by
  show nU (.sl (t.map iav)) = true
  rw [nU]; exact nUs_all fun x => rfl
 have h2 : ∀ r : GRel, nU r.av = true := fun r => by
  unfold GRel.av
  rw [nU, nUs, nUs, nUs, nUs, nU, nU, nU, nUs_all h1]; rfl
 unfold GStr.av
 rw [nU, nUs, nUs, nUs, nU, nU, nUs_all h2]; rfl
end Go.Proofs.YtlpndgodkkndnaaGreatDoor
