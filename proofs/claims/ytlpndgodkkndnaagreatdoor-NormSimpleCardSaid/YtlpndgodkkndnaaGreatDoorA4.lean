/- Contracts of the functions, part 4. -/
import Derived.Test.YtlpndgodkkndnaaGreatDoorA3
import Derived.Test.YtlpndgodkkndnaaGreatDoorA3
import Derived.Test.YtlpndgodkkndnaaGreatDoorS3
import Derived.Test.YtlpndgodkkndnaaGreatDoorS2
namespace Go.Proofs.YtlpndgodkkndnaaGreatDoor
open Go.RowKit Go.SX
set_option maxRecDepth 100000
set_option maxHeartbeats 4000000
set_option linter.unusedVariables false
set_option linter.unusedSimpArgs false
def tupL (n k m : Nat) : List (List Int) := (List.range m).map (tup n k)
theorem tupL_len (n k m : Nat) : (tupL n k m).length = m := by simp [tupL]
theorem tupL_get {n k m i : Nat} (h : i < m) : (tupL n k m)[i]? = some (tup n k i) := by
 unfold tupL; rw [List.getElem?_map, List.getElem?_range h]; rfl
theorem tupL_snoc (n k m : Nat) : tupL n k (m + 1) = tupL n k m ++ [tup n k m] := by
 unfold tupL; rw [List.range_succ, List.map_append]; rfl
theorem tup_digit {n : Nat} (hn : 0 < n) (k j x : Nat) (hx : x < n) : tup n (k + 1) (n * j + x) = tup n k j ++ [((x : Nat) : Int)] := by
 rw [tup, Nat.mul_add_div hn, Nat.div_eq_of_lt hx, Nat.add_zero, Nat.mul_add_mod, Nat.mod_eq_of_lt hx]
theorem all_sz1 (l : List Int) : ∀ x ∈ [] ++ l.map iav, x.size = 1 := by rw [List.nil_append]; exact all_map fun _ => rfl
theorem ref_Tuples (n k : Nat) (hn : 1 ≤ n ∧ n ≤ 64) (hk : k ≤ 1000) (hL : n ^ k ≤ 4096) : Tri Tryz.prog 25 [.int .i64 n, .int .i64 k] [] (D (.sl ((tupL n k (n ^ k)).map ints)) []) := by
 refine Tri.enter 42 Tryz.func25 rfl rfl rfl rfl fun Fr w0 => ?_
 repeat' (first | refine AW.re 0 1 ?_ | (refine AW.r 1 ?_; refine AL.d (AOp.lit (e := 3) (sz := 1) (by kernel_rfl) rfl rfl rfl P_nil (by decide)) ?_; refine AL.d (AOp.lit (e := 52) (sz := 1) (by kernel_rfl) rfl rfl rfl (P_one rfl) (by decide)) ?_; refine xN 1 ?_) | refine AW.re 2 1 ?_ | refine AW.go ?_ | fail)
 refine AW.prune [0, 1, 5, 6] (AW.loop (fun mz af h => ∃ (i : Nat), i ≤ k ∧ mz = k - i ∧ af = [(0, .int .i64 n), (1, .int .i64 k), (5, .sl ((tupL n i (n ^ i)).map ints)), (6, .int .i64 i)] ∧ h = [] ∧ True) k ⟨0, Nat.zero_le _, rfl, rfl, rfl, trivial⟩ ?_)
 rintro mz af h ⟨i, hi, rfl, rfl, rfl, he⟩
 refine AW.seq ?_
 by_cases hlt : i < k
 ·have hi0 : n ^ i ≤ 4096 := by have := powle hn.1 (show i ≤ k by omega); omega
  obtain ⟨I0, hI0⟩ : ∃ j : Nat, j = i := ⟨i, rfl⟩
  subst hI0
  have hlt0 := hlt
  repeat' (first | refine AW.re 3 3 ?_ | refine AW.jj (fun hb => ?_) (fun hb => ?_) | refine AW.go ?_ | fail)
  all_goals try (exfalso; simp only [dT, dF, lM] at *; omega)
  refine AW.own_nil 1 ?_
  repeat' (first | (refine AW.r 5 ?_; refine AL.d AOp.assign_nil ?_; refine AL.nil ?_) | (refine AW.r 6 ?_; refine AL.e ?_; refine AL.nil ?_) | refine AW.go ?_ | fail)
  have hlen : (((tupL n I0 (n ^ I0)).map ints).length : Int) = (n ^ I0 : Nat) := by rw [lM, tupL_len]
  refine AW.prune [0, 1, 5, 6, 7, 8] (AW.loop (fun mz af h => ∃ (i : Nat) (tb : Option Nat) (tc : Nat), i ≤ (n ^ I0) ∧ mz = (n ^ I0) - i ∧ af = [(0, .int .i64 n), (1, .int .i64 k), (5, .sl ((tupL n I0 (n ^ I0)).map ints)), (6, .int .i64 I0), (7, .slt ((tupL n (I0 + 1) (n * i)).map ints) tb tc), (8, .int .i64 i)] ∧ h = [.tail tb ((tupL n (I0 + 1) (n * i)).map ints).length tc 1] ∧ True) (n ^ I0) ⟨0, none, 0, Nat.zero_le _, rfl, rfl, rfl, trivial⟩ ?_)
  rintro mz af h ⟨i, tb, tc, hi, rfl, rfl, rfl, he⟩
  refine AW.seq ?_
  by_cases hlt : i < (n ^ I0)
  ·have hj : (n ^ I0) * n ≤ 4096 * 64 := Nat.mul_le_mul hi0 hn.2
   have hj2 : n * i + n ≤ n ^ I0 * n := by
    have := Nat.mul_le_mul_right n (show i + 1 ≤ n ^ I0 by omega)
    rw [Nat.add_mul, Nat.one_mul, Nat.mul_comm] at this; exact this
   obtain ⟨J0, hJ0⟩ : ∃ j : Nat, j = i := ⟨i, rfl⟩
   subst hJ0
   have hlt1 := hlt
   have hx' : ((tupL n I0 (n ^ I0)).map ints)[((J0 : Nat) : Int).toNat]? = some (ints (tup n I0 J0)) := map_get (tupL_get hlt)
   have htl := tup_len n I0 J0
   repeat' (first | refine AW.re 7 4 ?_ | refine AW.re 9 1 ?_ | refine AW.jj (fun hb => ?_) (fun hb => ?_) | refine AW.go ?_ | fail)
   all_goals try (exfalso; simp only [dT, dF, lM] at *; omega)
   refine AW.prune [0, 1, 5, 6, 7, 8, 9] (AW.loop (fun mz af h => ∃ (i : Nat) (tb : Option Nat) (tc : Nat), i ≤ n ∧ mz = n - i ∧ af = [(0, .int .i64 n), (1, .int .i64 k), (5, .sl ((tupL n I0 (n ^ I0)).map ints)), (6, .int .i64 I0), (7, .slt ((tupL n (I0 + 1) (n * J0 + i)).map ints) tb tc), (8, .int .i64 J0), (9, .int .i64 i)] ∧ h = [.tail tb ((tupL n (I0 + 1) (n * J0 + i)).map ints).length tc 1] ∧ True) n ⟨0, tb, tc, Nat.zero_le _, rfl, rfl, rfl, trivial⟩ ?_)
   rintro mz af h ⟨i, tb, tc, hi, rfl, rfl, rfl, he⟩
   refine AW.seq ?_
   by_cases hlt : i < n
   ·have hls : ((tupL n (I0 + 1) (n * J0 + i)).map ints).length = n * J0 + i := by rw [lM, tupL_len]
    have hit : ((tup n I0 J0).map iav).length = I0 := by rw [lM, htl]
    repeat' (first | refine AW.re 10 3 ?_ | refine AW.jj (fun hb => ?_) (fun hb => ?_) | refine AW.go ?_ | fail)
    all_goals try (exfalso; simp only [dT, dF, lM] at *; omega)
    refine AW.region_at 12 ?_
    refine AL.es 1 ?_
    refine AL.lit_own (e := 3) (sz := 1) (by kernel_rfl) rfl rfl rfl P_nil (by decide) rfl fun b0 => ?_
    refine AL.es 2 ?_
    refine AL.d (iX hx') ?_
    refine AL.d AOp.la ?_
    refine AL.append (i := 0) (e := 3) (sz := 1) (bytes := 8) rfl rfl rfl rfl (by kernel_rfl) (by kernel_rfl) (by repeat' (first | exact P_nil | fail)) (by repeat' (first | exact P_map fun _ => rfl | fail)) (ok_all (by repeat' (first | exact P_map fun _ => rfl | fail))) (by (try simp only [lA, lM, List.length_take, List.length_drop, List.length_cons, List.length_nil, List.length_replicate]); omega) (by (try simp only [lA, lM, List.length_take, List.length_drop, List.length_cons, List.length_nil, List.length_replicate]); omega) rfl fun b' c' => ?_
    refine AL.es 1 ?_
    refine AL.d (AOp.lit (e := 3) (sz := 1) (by kernel_rfl) rfl rfl rfl (P_one rfl) (by decide)) ?_
    refine AL.append (i := 0) (xs := [] ++ (tup n I0 J0).map iav) (e := 3) (sz := 1) (bytes := 8) rfl rfl rfl rfl (by kernel_rfl) (by kernel_rfl) (all_sz1 _) (P_one rfl) rfl (by rw [List.nil_append, hit]; simp; omega) (by rw [List.nil_append, hit]; simp; omega) rfl fun b2 c2 => ?_
    refine AL.as_sl 37 rfl ?_
    refine AL.drop (ah' := [.tail tb ((tupL n (I0 + 1) (n * J0 + i)).map ints).length tc 1]) (List.sublist_cons_self _ _) ?_
    refine AL.d (AOp.lit (e := 52) (sz := 1) (by kernel_rfl) rfl rfl rfl (P_one rfl) (by decide)) ?_
    refine AL.append (i := 0) (xs := (tupL n (I0 + 1) (n * J0 + i)).map ints) (e := 52) (sz := 1) (bytes := 24) rfl rfl rfl rfl (by kernel_rfl) (by kernel_rfl) (all_map fun _ => rfl) (P_one rfl) rfl (by rw [hls]; simp; omega) (by rw [hls]; simp; omega) rfl fun b3 c3 => ?_
    refine AL.es 1 ?_
    refine AL.nil ?_
    have hmm : (tupL n (I0 + 1) (n * J0 + (i + 1))).map ints = (tupL n (I0 + 1) (n * J0 + i)).map ints ++ [.sl ([] ++ (tup n I0 J0).map iav ++ [.int .i64 i])] := by
     rw [← Nat.add_assoc, tupL_snoc, List.map_append, tup_digit hn.1 I0 J0 i hlt]; simp [ints, iav]
    repeat' (first | (refine xS 11 1 ?_; refine AL.d AOp.ad ?_; refine xN 1 ?_) | fail)
    exact AW.again_keep (n - (i + 1)) [0, 1, 5, 6, 7, 8, 9] (by omega) ⟨i + 1, b3, c3, hlt, rfl, by rw [hmm]; rfl, by rw [hmm]; rfl, trivial⟩
   ·obtain rfl : i = n := by omega
    repeat' (first | refine AW.re 10 3 ?_ | (refine xS 8 1 ?_; refine AL.d AOp.ad ?_; refine xN 1 ?_) | refine AW.jj (fun hb => ?_) (fun hb => ?_) | refine AW.go ?_ | fail)
    all_goals try (exfalso; simp only [dT, dF, lM] at *; omega)
    exact AW.again_keep (i ^ I0 - (J0 + 1)) [0, 1, 5, 6, 7, 8] (by omega) ⟨J0 + 1, tb, tc, hlt1, rfl, rfl, rfl, trivial⟩
  ·obtain rfl : i = n ^ I0 := by omega
   rw [show n * n ^ I0 = n ^ (I0 + 1) by rw [Nat.pow_succ, Nat.mul_comm]]
   repeat' (first | refine AW.re 7 4 ?_ | refine AW.jj (fun hb => ?_) (fun hb => ?_) | refine AW.go ?_ | fail)
   all_goals try (exfalso; simp only [dT, dF, lM] at *; omega)
   refine AW.as_sl 7 rfl ?_
   refine AW.drop (List.nil_sublist _) ?_
   repeat' (first | refine AW.re 13 2 ?_ | (refine xS 4 1 ?_; refine AL.d AOp.ad ?_; refine xN 1 ?_) | fail)
   exact AW.again_keep (k - (I0 + 1)) [0, 1, 5, 6] (by omega) ⟨I0 + 1, hlt0, rfl, rfl, rfl, trivial⟩
 ·repeat' (first | refine AW.re 3 3 ?_ | refine AW.jj (fun hb => ?_) (fun hb => ?_) | refine AW.go ?_ | fail)
  all_goals try (exfalso; simp only [dT, dF, lM] at *; omega)
  obtain rfl : i = k := by omega
  repeat' (first | refine AW.re 14 2 ?_ | fail)
  exact AW.retv rfl ⟨rfl, rfl⟩
theorem AOp.quo2 {P : Program} {af : AF} {ah : AH} {d : Option Tmp} {T : TypeId} {ps : String} {es : Array Edge} {gd : Option (Nat × Bool)} {x y : Operand} {m : Nat} {xT yT : TypeId} (hx : aeval af x = some (.int .i64 m)) (hy : aeval af y = some (.int .i64 2)) (hm : m ≤ 1000000) :
  AOp P ⟨d, .binOp .quo xT x y yT, T, ps, es, gd⟩ af ah (D (.int .i64 (m / 2 : Nat)) ah) := by
 have := AOp.quo (P := P) (af := af) (ah := ah) (d := d) (T := T) (ps := ps) (es := es) (gd := gd) (xT := xT) (yT := yT) hx hy (by omega) (by omega)
 rwa [show ((m : Int) / 2) = ((m / 2 : Nat) : Int) by omega] at this
theorem AOp.mul2 {P : Program} {af : AF} {ah : AH} {d : Option Tmp} {T : TypeId} {ps : String} {es : Array Edge} {gd : Option (Nat × Bool)} {x y : Operand} {m : Nat} {xT yT : TypeId} (hx : aeval af x = some (.int .i64 2)) (hy : aeval af y = some (.int .i64 m)) (hm : m ≤ 1000000) :
  AOp P ⟨d, .binOp .mul xT x y yT, T, ps, es, gd⟩ af ah (D (.int .i64 (2 * m : Nat)) ah) := by
 have := AOp.mul (P := P) (af := af) (ah := ah) (d := d) (T := T) (ps := ps) (es := es) (gd := gd) (xT := xT) (yT := yT) hx hy (by omega)
 rwa [show (2 * (m : Int)) = ((2 * m : Nat) : Int) by omega] at this
def Mm.xr : Mm → Own | .m2 _ _ _ t => t.row | _ => .tail none 0 0 1
theorem perm_xr {α : Type} (b : α) (W A R : List α) (k : α) : (b :: (W ++ (A ++ (k :: R ++ [])))).Perm (b :: (A ++ k :: (W ++ R))) := by
 classical
 rw [List.perm_iff_count]
 intro x
 simp only [List.count_cons, List.count_append, List.count_nil]
 omega
theorem hH_one (bw : Nat) (s : WS) (b : Nat) (f : GFml) (m : Mm) (k : NT) : (hH bw s (.mk b f m [k])).Perm (.box b (nbox f [k.b] m) :: (m.own ++ hH bw s k)) := by
 rw [hH_mk, nownL, nownL, nown_eq]
 exact perm_xr _ _ _ _ _
theorem AW.xr {C : Cx} {ds : List Deferred} {ks : List SX.K} {af : AF} {bw : Nat} {s : WS} {b : Nat} {f : GFml} {m : Mm} {k : NT} (h : AW C ds ks af (m.xr :: .box b (nbox f [k.b] m) :: hH bw s k)) : AW C ds ks af (hH bw s (.mk b f m [k])) := by
 cases m with
 | m0 => exact AW.own_nil 1 (AW.perm ((hH_one bw s b f .m0 k).cons _) h)
 | m1 fr l => exact AW.own_nil 1 (AW.perm ((hH_one bw s b f (.m1 fr l) k).cons _) h)
 | m2 fr l nn t => exact AW.perm ((hH_one bw s b f (.m2 fr l nn t) k).trans (.swap _ _ _)) h
theorem AW.xr_back {C : Cx} {ds : List Deferred} {ks : List SX.K} {af : AF} {bw : Nat} {s : WS} {b : Nat} {f : GFml} {m : Mm} {k : NT} (h : AW C ds ks af (hH bw s (.mk b f m [k]))) : AW C ds ks af (m.xr :: .box b (nbox f [k.b] m) :: hH bw s k) := by
 cases m with
 | m0 => exact AW.drop (List.sublist_cons_self _ _) (AW.perm (hH_one bw s b f .m0 k).symm h)
 | m1 fr l => exact AW.drop (List.sublist_cons_self _ _) (AW.perm (hH_one bw s b f (.m1 fr l) k).symm h)
 | m2 fr l nn t => exact AW.perm ((List.Perm.swap _ _ _).trans (hH_one bw s b f (.m2 fr l nn t) k).symm) h
theorem shaped_tc2 {f : GFml} (h : shapedP f = true) (h8 : f.Kind = 10) : f.Args.length = f.Vars.length ∧ f.Vars.length ≤ 24 ∧ f.Vars.length % 2 = 0 := by
 have h3 := shaped_tc h h8
 simp only [shapedP, shp3, bA, dT] at h
 have h1 := h.2.2
 have h2 := h.2.1.2.1.2
 rw [h8] at h1 h2; simp [rulesP] at h1 h2; exact ⟨h1.symm, by omega, h3⟩
mutual
theorem ocs_name (s : ByteArray) : ∀ f : GFml, shsF f = true → ocs s f = true → nameB s = true
 | ⟨k, ar, nm, vars, args, kids⟩, hs, h => by
  rw [shsF, bA] at hs
  rw [ocs] at h
  by_cases h0 : k = 0
  ·subst h0
   simp only [beq_self_eq_true, cond_true, dT] at h
   subst h
   have := hs.2
   simp only [shapedP, shp1, bA] at this
   have h4 := this.1.1.2
   simpa [rulesP] using h4
  ·have e0 : (k == 0) = false := by simpa using h0
   rw [e0] at h
   simp only [cond_false] at h
   cases hc : (bindsB ⟨k, ar, nm, vars, args, kids⟩ && decide (nm = s)) with
   | true => rw [hc] at h; cases h
   | false => rw [hc] at h; exact ocs_nameL s kids hs.1 h
theorem ocs_nameL (s : ByteArray) : ∀ l : List GFml, shsFs l = true → ocsL s l = true → nameB s = true
 | [], _, h => by cases h
 | x :: l, hs, h => by
  rw [shsFs, bA] at hs
  rw [ocsL, Bool.or_eq_true] at h
  exact h.elim (ocs_name s x hs.1) (ocs_nameL s l hs.2)
end
theorem nameB_emp : nameB empB = false := by decide
theorem HoldsAt.same0 {bw : Nat} {K : NT → Prop} {s s' : WS} {n n' : NT} {names : List ByteArray} {tp : List Int} {v : Bool} (h : HoldsAt bw K s n names tp v) (hs : Same s s') (hb : n'.b = n.b) (hf : n'.f = n.f) : HoldsAt bw K s' n' names tp v := by
 intro s2 n2 h1 h2 h3 h4 h5 h6 h7 h8 h9
 exact h s2 n2 h1 (h2.trans hs.N) (h3.trans hs.base) (h4.trans hs.ts) (by rw [h5, hs.ns]) (by rw [h6, hs.vs]) (h7.trans hb) (h8.trans hf) h9
theorem queue_pop {pre td rest : List AV} {x : AV} {c : Nat} (hc0 : td.length + 1 ≤ c) (hc : c ≤ td.length + 1 + rest.length) : ∃ pre' rest', pre ++ (x :: td) ++ rest = pre' ++ td ++ rest' ∧ pre'.length = (if c = 1 then pre.length else pre.length + 1) ∧ td.length ≤ c - 1 ∧ c - 1 ≤ td.length + rest'.length := by
 by_cases h1 : c = 1
 ·have : td = [] := List.eq_nil_of_length_eq_zero (by omega)
  subst this
  refine ⟨pre, x :: rest, by simp, by rw [if_pos h1], by simp, by omega⟩
 ·refine ⟨pre ++ [x], rest, by simp, by rw [if_neg h1]; simp, by omega, by omega⟩
theorem relvs_slt {S : Rg} {w : World} {af : AF} {a : Act} (hfr : AFRel S w af a) {x0 x1 x2 x3 : Operand} {v0 v1 v3 : AV} {xs : List AV} {b : Option Nat} {c : Nat} (h0 : aeval af x0 = some v0) (h1 : aeval af x1 = some v1) (h2 : aeval af x2 = some (.slt xs b c)) (h3 : aeval af x3 = some v3) :
  RelVs S w [v0, v1, .sl xs, v3] ([x0, x1, x2, x3].map a.eval) := by
 have k0 := aeval_rel hfr h0
 have k1 := aeval_rel hfr h1
 have k2 := (aeval_rel hfr h2).as_sl
 have k3 := aeval_rel hfr h3
 simp only [RelVs, List.map_cons, List.map_nil]
 exact ⟨_, _, rfl, k0.1, k0.2, _, _, rfl, k1.1, k1.2, _, _, rfl, k2.1, k2.2, _, _, rfl, k3.1, k3.2, rfl⟩
theorem shaped_noname {f : GFml} (h : shapedP f = true) (h8 : f.Kind = 10) : f.Name = empB := by
 simp only [shapedP, shp1, bA] at h
 have h4 := h.1.1.1.2
 rw [h8] at h4
 simpa [rulesP] using h4
theorem w_stage1 (bw : Nat) (K : NT → Prop) (φ : Nat → Bool) (n : NT) (s : WS) (names : List ByteArray) (now : TE) (L : Nat) (X : Own) (hL : L = s.N ^ names.length) (hbl : now.bits.length = L) (hL2 : L ≤ 4096) (hs : s.Ok) (hn : s.ns.length + names.length ≤ 100000) (ht : s.ts.length + 1 ≤ 10000) (hk : K n)
  (H : ∀ i, i < L → ∀ o c tl, HoldsAt bw K (s.push o c tl now) n names (tup s.N names.length i) (φ i)) :
  Tri Tryz.prog 196 [.ref bw 0, strs names, .ref n.b 0, now.av] (now.row :: X :: hH bw s n)
   (fun x h => ∃ s' n' out, x = .ret (TE.av out) ∧ h = out.row :: X :: now.row :: hH bw s' n' ∧ Same s s' ∧ n'.b = n.b ∧ n'.f = n.f ∧ K n' ∧ out.nm = now.nm ∧ out.ar = now.ar ∧ out.bits = (List.range L).map φ) := by
 refine Tri.reorder ((w_stage bw K φ n s names now L hL hbl hL2 hs hn ht hk H).behind [X]) ?_ ?_
 ·exact ((List.perm_append_comm (l₁ := [X]) (l₂ := hH bw s n)).cons now.row)
 ·rintro x h ⟨_, ⟨s', n', out, e, rfl, h1⟩, rfl⟩
  exact ⟨_, ⟨s', n', out, e, rfl, h1⟩, (((List.perm_append_comm (l₁ := hH bw s' n') (l₂ := [X])).cons now.row).trans (.swap _ _ _)).cons out.row⟩
theorem w_connected (bw M : Nat) (T0 : TT) (b : Nat) (m : Mm) (k : NT) (s : WS) (f x : GFml) (hkids : f.Kids = [x]) (hT0 : s.T.take s.base = T0) (hbs : s.base ≤ s.ts.length) (hL2 : s.N ^ (f.Vars.length / 2) ≤ 4096) (hkd : f.Kind = 10) (hs : s.Ok)
  (hx : x.Ok) (hnd : ndF x ≤ 40000) (hsh : shsF f = true) (hn : s.ns.length + f.Vars.length ≤ 100000) (ht : s.ts.length + 1 ≤ 10000) (hK : KOk s.N M T0 (.mk b f m [k]))
  (H2 : ∀ t : List Int, t.length = f.Vars.length → (∀ y ∈ t, 0 ≤ y ∧ y < s.N) → HoldsAt bw (KOk s.N M T0) s k f.Vars t (semH s.N M f.Kids s.T (s.V ++ f.Vars.zip t)))
  (H3 : ∀ now : TE, now.nm = empB → ∀ t : List Int, t.length = f.Vars.length → (∀ y ∈ t, 0 ≤ y ∧ y < s.N) → HoldsAt bw (KOk s.N M T0) (s.push none 0 [] now) k f.Vars t (semH s.N M f.Kids s.T (s.V ++ f.Vars.zip t))) :
  Tri Tryz.prog 180 [.ref bw 0, .ref b 0] (hH bw s (.mk b f m [k])) (HPost bw s (.mk b f m [k]) (KOk s.N M T0) (.bool (sem s.N M f s.T s.V)) []) := by
 have hsp : shapedP f = true := by rw [shsF_eq, bA] at hsh; exact hsh.2
 have hshx : shsF x = true := by have := shsF_kids hsh; rw [hkids, shsFs, shsFs] at this; simpa using this
 obtain ⟨hal, hvl, hev⟩ := shaped_tc2 hsp hkd
 obtain ⟨hf, hhf⟩ : ∃ q, q = f.Vars.length / 2 := ⟨_, rfl⟩
 have hhv : f.Vars.length = hf + hf := by omega
 have hVal := Vals_H bw s hs (.mk b f m [k]) f.Args (by omega)
 have hval := val_in hs f.Args
 have hVl : lenOf (strs f.Vars) = some ((f.Vars.length : Nat) : Int) := by show some (((f.Vars.map AV.str).length : Nat) : Int) = _; rw [lM]
 rw [← hhf] at hL2
 have hTup := ref_Tuples s.N hf ⟨hs.n1, hs.n2⟩ (by omega) hL2
 obtain ⟨L, hL⟩ : ∃ q, q = s.N ^ hf := ⟨_, rfl⟩
 rw [← hL] at hL2 hTup
 have hAll : lenOf (.sl ((tupL s.N hf L).map ints)) = some ((L : Nat) : Int) := by show some ((((tupL s.N hf L).map ints).length : Nat) : Int) = _; rw [lM, tupL_len]
 have hKm : mOk s.N M T0 f m := by rw [KOk_eq] at hK; exact hK.1
 have hKf : [k].map NT.f = f.Kids := by rw [KOk_eq] at hK; exact hK.2.1
 have hKk : KOk s.N M T0 k := by rw [KOk_eq] at hK; exact KOkL_mem hK.2.2 k (by show k ∈ [k]; simp)
 have hAl := w_alone bw s.N M T0 (.mk b f m [k]) s x hs hbs hkids hx hnd hshx (by show f.Vars.length ≤ 100000; omega) hKm
 have hno : ∀ t, ocsL t f.Kids = true → t = f.Name → False := fun t h1 h2 => by
  have := ocs_nameL t f.Kids (shsF_kids hsh) h1
  rw [h2, shaped_noname hsp hkd, nameB_emp] at this; cases this
 generalize hA : f.Args.map (val s.V) = A at *
 refine Tri.enter 177 Tryz.func180 rfl rfl rfl rfl fun Fr w0 => ?_
 repeat' (first | refine AW.re 0 1 ?_ | (refine xS 1 3 ?_; refine AL.d (AOp.fr 0) ?_; refine AL.d (AOp.fr 4) ?_; refine AL.d (AOp.ll 0) ?_; refine AL.d (AOp.call rfl rfl hVal) ?_; refine xN 1 ?_) | (refine xS 2 2 ?_; refine AL.d (AOp.fr 0) ?_; refine AL.d (AOp.fr 3) ?_; refine AL.d (AOp.ll 0) ?_; refine AL.d (AOp.len rfl hVl (by kernel_rfl)) ?_; refine AL.d (AOp.quo2 rfl rfl (by omega)) ?_; refine xN 1 ?_) | refine AW.go ?_ | fail)
 rw [← hhf]
 repeat' (first | (refine xS 3 2 ?_; refine AL.d (AOp.fr 0) ?_; refine AL.d (AOp.ll 1) ?_; refine AL.es 1 ?_; refine AL.d (AOp.call rfl rfl (hTup.pure _)) ?_; refine xN 1 ?_) | fail)
 refine AW.seq ?_
 refine AW.cut (fun af h => ∃ (al : Bool) (m' : Mm), af = [(0, .ref bw 0), (1, .ref b 0), (5, ints A), (6, .int .i64 hf), (7, .sl ((tupL s.N hf L).map ints)), (8, .bool al)] ∧ h = hH bw s (.mk b f m' [k]) ∧ mOk s.N M T0 f m' ∧ m'.kn = true ∧ (al = true → L ≤ 64 ∧ m'.fr = true ∧ Alone s.T s.base f)) ?_ ?_
 ·repeat' (first | (refine xS 4 2 ?_; (refine AL.callQ rfl rfl hAl rfl ?_ ?_; rotate_left; rintro _ _ ⟨_, _, e, _⟩; cases e; rintro _ _ ⟨B, m', e, rfl, hm1, hm2, hm3, hm4, hm5⟩; injection e with e; subst e) <;> refine AL.es 1 ?_ <;> ((refine AL.gx (fun hb => ?_) (fun hb => ?_) <;> refine AL.es 1 ?_)) <;> (first | (refine AL.gd ?_; (refine AL.d (AOp.len rfl hAll (by kernel_rfl)) ?_)) | refine AL.gs ?_) <;> refine AL.es 3 ?_ <;> refine AL.nil ?_) | fail)
  all_goals first
   | exact AW.meet [0, 1, 5, 6, 7, 8] ⟨decide ((L : Int) ≤ 64), m', rfl, rfl, hm1, hm2, fun e => ⟨by have := of_decide_eq_true e; omega, hm5 (by assumption)⟩⟩
   | exact AW.meet [0, 1, 5, 6, 7, 8] ⟨false, m', rfl, rfl, hm1, hm2, (fun e => by cases e)⟩
 rintro _ _ ⟨al, m1, rfl, rfl, hm1, hm2, hm5⟩
 refine AW.seq ?_
 refine AW.cut (fun af h => ∃ (m' : Mm) (s' : WS) (k' : NT), af = [(0, .ref bw 0), (1, .ref b 0), (5, ints A), (6, .int .i64 hf), (7, .sl ((tupL s.N hf L).map ints)), (8, .bool al)] ∧ h = m'.xr :: .box b (nbox f [k.b] m') :: hH bw s' k' ∧ Same s s' ∧ k'.b = k.b ∧ k'.f = k.f ∧ KOk s.N M T0 k' ∧ mOk s.N M T0 f m' ∧ (al = true → ∃ fr names nn t, m' = .m2 fr names nn t ∧ t.bits = tcT s.N M f s.T s.V ∧ L ≤ 64)) ?_ ?_
 ·refine AW.xr ?_
  cases al with
  | false =>
   repeat' (first | (refine xS 5 2 ?_; refine AL.es 2 ?_; refine AL.gs ?_; refine AL.gs ?_; refine xN 2 ?_) | refine AW.jf ?_ | refine AW.go ?_ | fail)
   exact AW.meet [0, 1, 5, 6, 7, 8] ⟨m1, s, k, rfl, rfl, Same.refl hs, rfl, rfl, hKk, hm1, (fun e => by cases e)⟩
  | true =>
   obtain ⟨hL64, hfr, hA2⟩ := hm5 rfl
   cases m1 with
   | m0 => cases hm2
   | m2 fr names nn t =>
    repeat' (first | (refine xS 5 2 ?_; refine AL.es 2 ?_; ((refine AL.gd ?_; (refine AL.d (AOp.fr 9) ?_))) <;> ((refine AL.gd ?_; (refine AL.d (AOp.ll 1) ?_))) <;> refine AL.es 2 ?_ <;> refine AL.nil ?_) | refine AW.jf ?_ | refine AW.go ?_ | fail)
    exact AW.meet [0, 1, 5, 6, 7, 8] ⟨.m2 fr names nn t, s, k, rfl, rfl, Same.refl hs, rfl, rfl, hKk, hm1, fun _ => ⟨fr, names, nn, t, rfl, by rw [alone_tcT hsh hA2 hno, hT0]; exact hm1.2.2.2 hkd, hL64⟩⟩
   | m1 fr names =>
    have h2v : 2 * hf = f.Vars.length := by omega
    obtain ⟨LL, hLL⟩ : ∃ q, q = s.N ^ f.Vars.length := ⟨_, rfl⟩
    have hLL2 : LL ≤ 4096 := by
     rw [hLL, hhv, Nat.pow_add, ← hL]
     have := Nat.mul_le_mul hL64 hL64; omega
    have hTab := ref_TableNew s.N (2 * hf) empB ⟨hs.n1, hs.n2⟩ (by omega) (by rw [h2v, ← hLL]; exact hLL2)
    rw [show s.N ^ (2 * hf) = LL by rw [h2v, hLL]] at hTab
    have hSt : ∀ hb, Tri Tryz.prog 196 [.ref bw 0, strs f.Vars, .ref k.b 0, .st [.str empB, .int .i64 (2 * hf : Nat), .osl hb LL LL]] (.row hb (List.replicate LL (.bool false)) :: .box b (nbox f [k.b] (.m1 fr names)) :: hH bw s k)
      (fun x h => ∃ s' n' out, x = .ret (TE.av out) ∧ h = out.row :: .box b (nbox f [k.b] (.m1 fr names)) :: .row hb (List.replicate LL (.bool false)) :: hH bw s' n' ∧ Same s s' ∧ n'.b = k.b ∧ n'.f = k.f ∧ KOk s.N M T0 n' ∧ out.bits = tcT s.N M f s.T s.V) := fun hb => by
     have := w_stage1 bw (KOk s.N M T0) (fun i => semH s.N M f.Kids s.T (s.V ++ f.Vars.zip (tup s.N f.Vars.length i))) k s f.Vars ⟨empB, (2 * hf : Nat), hb, falses LL⟩ LL (.box b (nbox f [k.b] (.m1 fr names))) hLL (falses_len LL) hLL2 hs hn ht hKk
      (fun i hi o c tl => (H3 ⟨empB, (2 * hf : Nat), hb, falses LL⟩ rfl (tup s.N f.Vars.length i) (tup_len _ _ _) (fun y hy => tup_mem (by have := hs.n1; omega) _ _ y hy)).same (Same.refl hs) rfl rfl rfl)
     unfold TE.av TE.row at this
     simp only [falses_len, falses_map] at this
     exact this.mono fun x h ⟨s', n', out, h1, h2, h3, h4, h5, h6, h7, h8, h9⟩ => ⟨s', n', out, h1, h2, h3, h4, h5, h6, by rw [h9]; unfold tcT; rw [hLL]⟩
    have hkx' : ([k.b].map fun b => AV.ref b 0)[(0 : Int).toNat]? = some (.ref k.b 0) := rfl
    repeat' (first | (refine xS 5 2 ?_; refine AL.es 2 ?_; ((refine AL.gd ?_; (refine AL.d (AOp.fr 9) ?_))) <;> ((refine AL.gd ?_; (refine AL.d (AOp.ll 1) ?_))) <;> refine AL.es 2 ?_ <;> refine AL.nil ?_) | refine AW.jt ?_ | fail)
    refine AW.perm (List.perm_append_comm (l₁ := [_])) ?_
    repeat' (first | fail)
    refine AW.explore2 [20] [20, 21, 24, 27] rfl (by kernel_rfl) (by kernel_rfl) (by kernel_rfl) (by kernel_rfl) ?_
    refine AQ2.ev rfl rfl rfl rfl ?_
    refine AQ2.ev rfl rfl rfl rfl ?_
    refine AQ2.ev rfl rfl rfl rfl ?_
    refine AQ2.ev rfl rfl rfl rfl ?_
    refine AQ2.ev rfl rfl rfl rfl ?_
    first | refine AQ2.op rfl AOp.fa rfl rfl ?_ | refine AQ2.op rfl (AOp.fr 0) rfl rfl ?_
    first | refine AQ2.op rfl AOp.fa rfl rfl ?_ | refine AQ2.op rfl (AOp.fr 3) rfl rfl ?_
    refine AQ2.pe rfl (AOp.ll 0) ?_
    refine AQ2.ev rfl rfl rfl rfl ?_
    refine AQ2.ev rfl rfl rfl rfl ?_
    first | refine AQ2.op rfl AOp.fa rfl rfl ?_ | refine AQ2.op rfl (AOp.fr 6) rfl rfl ?_
    refine AQ2.pe rfl (AOp.ll 0) ?_
    refine AQ2.op rfl (iX hkx') rfl rfl ?_
    refine AQ2.op rfl (AOp.la) rfl rfl ?_
    refine AQ2.ev rfl rfl rfl rfl ?_
    refine AQ2.ev rfl rfl rfl rfl ?_
    first | refine AQ2.op rfl AOp.fa rfl rfl ?_ | refine AQ2.op rfl (AOp.fr 0) rfl rfl ?_
    refine AQ2.pe rfl (AOp.ll 2) ?_
    refine AQ2.ev rfl rfl rfl rfl ?_
    refine AQ2.op rfl (AOp.mul2 rfl rfl (by omega)) rfl rfl ?_
    refine AQ2.hole rfl rfl ?_
    refine AQ2.hole rfl rfl ?_
    refine AQ2.ev rfl rfl rfl rfl ?_
    first | refine AQ2.op rfl AOp.fa rfl rfl ?_ | refine AQ2.op rfl (AOp.fr 12) rfl rfl ?_
    refine AQ2.hole rfl rfl ?_
    refine AQ2.ev rfl rfl rfl rfl ?_
    first | refine AQ2.op rfl AOp.fa rfl rfl ?_ | refine AQ2.op rfl (AOp.fr 9) rfl rfl ?_
    refine AQ2.hole rfl rfl ?_
    refine AQ2.nil ?_
    repeat' (first | refine AX2.one (n := 3) 20 rfl ?_ | refine AX2.one (n := 2) 21 rfl ?_ | refine AX2.one (n := 1) 24 rfl ?_ | refine AX2.one (n := 0) 27 rfl ?_ | (refine AX2S.mk (i := 20) rfl rfl rfl (AOp.call rfl rfl hTab) ?_ (by rintro _ _ ⟨_, e, _⟩; cases e); rintro _ _ ⟨hb, e, rfl⟩; injection e with e; subst e; dsimp only [sA, sB, sC, sD]) | (refine AX2S.step (i := 21) rfl rfl rfl (AOp.call rfl rfl (hSt _)) ?_ (by rintro _ _ ⟨_, _, _, e, _⟩; cases e); rintro _ _ ⟨s2, k2, out, e, rfl, sm2, kb2, kf2, hk2, hbit⟩; injection e with e; subst e; dsimp only [sA, sB, sC, sD]) | (refine AX2S.sl 1 (i := 24) rfl rfl (fun _ => ?_); dsimp only [sA, sB, sC, sD]) | (refine AX2S.sl 1 (i := 27) rfl rfl (fun _ => ?_); dsimp only [sA, sB, sC, sD]) | fail)
    all_goals refine AX2.done_keep [0,1,5,6,7,8] ?_
    all_goals exact AW.drop (ah' := out.row :: .box b (nbox f [k.b] (.m2 fr names false out)) :: hH bw s2 k2) (.cons_cons _ (.cons_cons _ (.cons _ (List.sublist_append_left _ _)))) (AW.meet [0, 1, 5, 6, 7, 8] ⟨.m2 fr names false out, s2, k2, rfl, rfl, sm2, kb2, kf2, hk2, ⟨hm1, hfr, fun h8 => (by omega), fun _ => by rw [hbit, alone_tcT hsh hA2 hno, hT0]⟩, fun _ => ⟨fr, names, false, out, rfl, hbit, hL64⟩⟩)
 rintro _ _ ⟨m2, s2, k2, rfl, rfl, sm, kb2, kf2, hk2, hm2, htab⟩
 have hAl2 : A.length = hf + hf := by rw [← hA, lM, hal, hhv]
 have hAr : ∀ y ∈ A, 0 ≤ y ∧ y < s.N := hval
 have htk : ∀ y ∈ A.take hf, 0 ≤ y ∧ y < s.N := fun y hy => hAr y (List.mem_of_mem_take hy)
 have hdr : ∀ y ∈ A.drop hf, 0 ≤ y ∧ y < s.N := fun y hy => hAr y (List.mem_of_mem_drop hy)
 have hb1 := rankI_bd hs.n1 (A.take hf) 0 0 htk (Int.le_refl _) (by simp)
 have hb2 := rankI_bd hs.n1 (A.drop hf) 0 0 hdr (Int.le_refl _) (by simp)
 rw [Nat.zero_add, List.length_take, Nat.min_eq_left (by omega), ← hL] at hb1
 rw [Nat.zero_add, List.length_drop, show A.length - hf = hf by omega, ← hL] at hb2
 have hR1 := ref_rank3 s.N ⟨hs.n1, hs.n2⟩ (A.take hf) (by rw [List.length_take]; omega) htk (by rw [List.length_take, Nat.min_eq_left (by omega), ← hL]; exact hL2)
 have hR2 := ref_rank3 s.N ⟨hs.n1, hs.n2⟩ (A.drop hf) (by rw [List.length_drop]; omega) hdr (by rw [List.length_drop, show A.length - hf = hf by omega, ← hL]; exact hL2)
 have e1 : ints (A.take hf) = .sl (((A.map iav).take hf).drop 0) := by unfold ints; rw [List.map_take]; rfl
 have e2 : ints (A.drop hf) = .sl (((A.map iav).take (A.map iav).length).drop hf) := by unfold ints; rw [List.map_drop, List.take_length]
 rw [e1] at hR1
 rw [e2] at hR2
 have hsem := sem_tc s.N M f s.T s.V hkd
 rw [← hhf, ← hL, hA] at hsem
 obtain ⟨R, hR⟩ : ∃ R : Nat → Nat → Bool, R = fun x y => semH s.N M f.Kids s.T (s.V ++ f.Vars.zip (tup s.N hf x ++ tup s.N hf y)) := ⟨_, rfl⟩
 rw [← hR] at hsem
 rw [hsem]
 generalize rankI s.N (A.take hf) 0 = a1 at *
 generalize rankI s.N (A.drop hf) 0 = a2 at *
 obtain ⟨a, ha⟩ : ∃ a : Nat, a1 = a := ⟨a1.toNat, by omega⟩
 subst ha
 have haL : a < L := by omega
 rw [Int.toNat_natCast]
 have hN2 : s2.N = s.N := sm.N
 rw [← hN2] at hR1 hR2
 repeat' (first | (refine xS 7 1 ?_; refine AL.d (AOp.len rfl hAll (by kernel_rfl)) ?_; refine AL.makeSlice (n := L) (e := 4) (c := .bool false) (z := .bool false) (bytes := 1) rfl rfl (by kernel_rfl) rfl (by omega) (by omega) rfl fun bm => ?_; refine xN 1 ?_) | refine AW.go ?_ | fail)
 repeat' (first | fail)
 refine AW.explore [] [8, 9] rfl (by kernel_rfl) (by kernel_rfl) (by kernel_rfl) (by kernel_rfl) ?_
 refine AQE.ev rfl rfl rfl rfl ?_
 refine AQE.ev rfl rfl rfl rfl ?_
 first | refine AQE.op rfl AOp.fa rfl rfl ?_ | refine AQE.op rfl (AOp.fr 0) rfl rfl ?_
 refine AQE.op rfl (AOp.ll 4) rfl rfl ?_
 refine AQE.ev rfl rfl rfl rfl ?_
 refine AQE.ev rfl rfl rfl rfl ?_
 refine AQE.op rfl (AOp.cut (sz := 1) rfl rfl (by kernel_rfl) (all_map fun _ => rfl) bndIs.none (bndIs.some rfl rfl) (by omega) (by rw [lM]; omega)) rfl rfl ?_
 refine AQE.op rfl (AOp.call rfl rfl (hR1.pure _)) rfl rfl ?_
 refine AQE.hole rfl rfl ?_
 refine AQE.hole rfl rfl ?_
 refine AQE.nil ?_
 repeat' (first | refine AX.one (n := 1) 8 rfl ?_ | refine AX.one (n := 0) 9 rfl ?_ | (refine AXS.new (i := 8) rfl rfl rfl (AOp.lit_q (e := 3) (by kernel_rfl) rfl rfl rfl (P_one rfl) (by decide)) (fun bq => ?_); dsimp only [sA, sB, sC, sD]) | (refine AXS.det (i := 9) rfl rfl rfl (AOp.ev rfl) ?_; dsimp only [sA, sB, sC, sD]) | fail)
 all_goals refine AX.done_keep [0,1,5,6,7,8,9,10] ?_
 have hst9 : ((a : Nat) : Int).toNat < (List.replicate L (AV.bool false)).length := by rw [List.length_replicate]; omega
 repeat' (first | (refine xS 9 2 ?_; refine AL.d (AOp.index_q rfl rfl (by omega) (by omega) (by kernel_rfl)) ?_; refine AL.d (AOp.load_cell 0 rfl rfl rfl rfl (by kernel_rfl)) ?_; refine AL.d (AOp.index_osl rfl rfl (by omega) (by omega) (by kernel_rfl)) ?_; refine AL.store_cell 1 rfl rfl rfl hst9 rfl rfl (by kernel_rfl) ?_; refine AL.nil ?_) | refine AW.go ?_ | fail)
 have hm0 : (List.replicate L (AV.bool false)).set ((a : Nat) : Int).toNat (.bool true) = ((falses L).set a true).map bav := by
  rw [List.map_set, falses_map]; rfl
 refine AW.frame_eq rfl (show _ = .row bq ([] ++ [AV.int .i64 a] ++ []) :: .row bm (((falses L).set a true).map bav) :: m2.xr :: .box b (nbox f [k.b] m2) :: hH bw s2 k2 from by rw [← hm0]; rfl) ?_
 have hBI := BI.init (R := R) haL
 have hcnt0 := cnt_le ((falses L).set a true)
 refine AW.prune [0, 1, 5, 6, 7, 8, 9, 10] (AW.loop (fun mz af h => ∃ (met : List Bool) (todo : List Nat) (bq o c : Nat) (pre rest : List AV) (s' : WS) (k' : NT), af = [(0, .ref bw 0), (1, .ref b 0), (5, ints A), (6, .int .i64 hf), (7, .sl ((tupL s.N hf L).map ints)), (8, .bool al), (9, .osl bm L L), (10, qV bq o todo.length c)] ∧
  h = .row bq (pre ++ todo.map (fun x : Nat => AV.int .i64 x) ++ rest) :: .row bm (met.map bav) :: m2.xr :: .box b (nbox f [k.b] m2) :: hH bw s' k' ∧ pre.length = o ∧ todo.length ≤ c ∧ c ≤ todo.length + rest.length ∧ BI R L a met todo ∧ mz = 2 * (L - cntB met) + todo.length ∧ mz ≤ 2 * L + 1 ∧ Same s s' ∧ k'.b = k.b ∧ k'.f = k.f ∧ KOk s.N M T0 k')
  (2 * (L - cntB ((falses L).set a true)) + 1) ⟨(falses L).set a true, [a], bq, 0, 1, [], [], s2, k2, rfl, rfl, rfl, Nat.le_refl _, Nat.le_refl _, hBI, rfl, by omega, sm, kb2, kf2, hk2⟩ ?_)
 rintro mz af h ⟨met, todo, bq, o, c, pre, rest, s3, k3, rfl, rfl, hpre, hc1, hc2, hBI, hmz, hmz2, sm3, kb3, kf3, hk3⟩
 refine AW.seq ?_
 cases todo with
 | nil =>
  have hN3 : s3.N = s.N := sm3.N
  rw [hN2, ← hN3] at hR2
  have hfin := hBI.fin a2.toNat (by omega)
  obtain ⟨bb, hbb⟩ := get_lt (show a2.toNat < met.length by rw [hBI.len]; omega)
  have hbb' : (met.map bav)[a2.toNat]? = some (bav bb) := map_get hbb
  repeat' (first | (refine xS 10 1 ?_; refine AL.d (AOp.len_val (by kernel_rfl) rfl) ?_; refine xN 1 ?_) | refine AW.jf ?_ | refine AW.go ?_ | fail)
  all_goals try (exfalso; simp at hb; done)
  all_goals try (exfalso; simp at hb; omega)
  repeat' (first | (refine AW.dq 19 ?_; refine AQ.es 3 ?_; refine AQ.p rfl (AOp.fr 0) ?_; refine AQ.p rfl (AOp.ll 5) ?_; refine AQ.es 2 ?_; refine AQ.p rfl (AOp.cut (sz := 1) rfl rfl (by kernel_rfl) (all_map fun _ => rfl) (bndIs.some rfl rfl) bndIs.none (by rw [lM]; omega) (Nat.le_refl _)) ?_ <;> refine AQ.p rfl (AOp.call rfl rfl (hR2.pure _)) ?_ <;> refine AQ.p rfl (AOp.index_osl rfl rfl (by omega) (by omega) (by kernel_rfl)) ?_ <;> (refine AQ.p rfl (AOp.load_cell 1 rfl rfl hbb' rfl (by kernel_rfl)) ?_) <;> refine AQ.es 1 ?_ <;> refine AQ.nil ?_) | fail)
  refine AW.drop (ah' := m2.xr :: .box b (nbox f [k.b] m2) :: hH bw s3 k3) (.cons _ (.cons _ (List.Sublist.refl _))) ?_
  refine AW.frame_eq rfl (show _ = m2.xr :: .box b (nbox f [k3.b] m2) :: hH bw s3 k3 from by rw [kb3]) ?_
  refine AW.xr_back ?_
  refine AW.retv rfl ⟨?_, s3, .mk b f m2 [k3], rfl, sm3, rfl, rfl, ?_⟩
  ·rw [← hfin, List.getD_eq_getElem?_getD, hbb]; rfl
  ·rw [KOk_eq]
   refine ⟨hm2, ?_, ?_⟩
   ·show [k3].map NT.f = f.Kids
    rw [← hKf, List.map_cons, List.map_cons, kf3]
   ·show KOkL s.N M T0 [k3]
    rw [KOkL, KOkL]; exact ⟨hk3, trivial⟩
 | cons x td =>
  have hxm := hBI.td x (by simp)
  have hxL : x < L := by have := getD_lt hxm; rw [hBI.len] at this; exact this
  have hg0 : (pre ++ (x :: td).map (fun x : Nat => AV.int .i64 x) ++ rest)[o + (0 : Int).toNat]? = some (.int .i64 x) := by
   rw [List.append_assoc, List.getElem?_append_right (by rw [hpre]; simp), hpre]; simp
  obtain ⟨pre2, rest2, hq1, hq2, hq3, hq4⟩ := queue_pop (pre := pre) (td := td.map fun x : Nat => AV.int .i64 x) (rest := rest) (x := .int .i64 x) (c := c) (by simpa using hc1) (by simpa using hc2)
  rw [lM] at hq3 hq4
  rw [hpre] at hq2
  repeat' (first | (refine xS 10 1 ?_; refine AL.d (AOp.len_val (by kernel_rfl) rfl) ?_; refine xN 1 ?_) | refine AW.jj (fun hb => ?_) (fun hb => ?_) | refine AW.go ?_ | fail)
  all_goals try (exfalso; simp at hb; done)
  all_goals try (exfalso; simp at hb; omega)
  repeat' (first | (refine xS 11 1 ?_; refine AL.d (AOp.index_q rfl rfl (by omega) (by rw [List.length_cons]; omega) (by kernel_rfl)) ?_ <;> (refine AL.d (AOp.load_cell 0 rfl rfl hg0 rfl (by kernel_rfl)) ?_) <;> refine AL.es 1 ?_ <;> refine AL.nil ?_) | (refine xS 12 1 ?_; refine AL.d (AOp.cut_q (by kernel_rfl) rfl rfl (by rw [List.length_cons]; omega) hc1) ?_ <;> refine AL.es 1 ?_ <;> refine AL.nil ?_) | refine AW.go ?_ | fail)
  repeat' (first | refine AW.re 13 1 ?_ | refine AW.go ?_ | fail)
  obtain ⟨o2, ho2⟩ : ∃ q, q = if c = 1 then o else o + 1 := ⟨_, rfl⟩
  rw [← ho2] at hq2
  have hlen0 : (x :: td).length - 1 = td.length := by simp
  refine AW.prune [0, 1, 5, 6, 7, 8, 9, 10, 11, 12] (AW.loop (fun mz' af h => ∃ (j : Nat) (met' : List Bool) (td' : List Nat) (bq' o' c' : Nat) (pre' rest' : List AV) (s' : WS) (k' : NT), j ≤ L ∧ mz' = L - j ∧ af = [(0, .ref bw 0), (1, .ref b 0), (5, ints A), (6, .int .i64 hf), (7, .sl ((tupL s.N hf L).map ints)), (8, .bool al), (9, .osl bm L L), (10, qV bq' o' td'.length c'), (11, .int .i64 x), (12, .int .i64 j)] ∧
   h = .row bq' (pre' ++ td'.map (fun x : Nat => AV.int .i64 x) ++ rest') :: .row bm (met'.map bav) :: m2.xr :: .box b (nbox f [k.b] m2) :: hH bw s' k' ∧ pre'.length = o' ∧ td'.length ≤ c' ∧ c' ≤ td'.length + rest'.length ∧ BJ R L a met' td' x j ∧ 2 * (L - cntB met') + td'.length < mz ∧ Same s s' ∧ k'.b = k.b ∧ k'.f = k.f ∧ KOk s.N M T0 k') L
   ⟨0, met, td, bq, o2, c - 1, pre2, rest2, s3, k3, Nat.zero_le _, rfl, by rw [ho2]; rfl, by rw [← hq1]; rfl, hq2, hq3, hq4, hBI.pop, by rw [hmz, List.length_cons]; omega, sm3, kb3, kf3, hk3⟩ ?_)
  clear hBI hxm hg0 hq1 hq2 hq3 hq4 hpre hc1 hc2 hmz sm3 kb3 kf3 hk3 hlen0 ho2
  rintro mz' af h ⟨j, met, td, bq, o, c, pre, rest, s3, k3, hj, rfl, rfl, rfl, hpre, hc1, hc2, hBJ, hmz, sm3, kb3, kf3, hk3⟩
  refine AW.seq ?_
  by_cases hlt : j < L
  ·have hml := hBJ.len
   obtain ⟨my, hmy⟩ := get_lt (show j < met.length by omega)
   have hmy' : (met.map bav)[((j : Nat) : Int).toNat]? = some (bav my) := map_get hmy
   have hmd : met.getD j false = my := by rw [List.getD_eq_getElem?_getD, hmy]; rfl
   have hcl := cnt_le met
   repeat' (first | (refine xS 14 2 ?_; refine AL.d (AOp.len rfl hAll (by kernel_rfl)) ?_; refine xN 1 ?_) | refine AW.jj (fun hb => ?_) (fun hb => ?_) | refine AW.go ?_ | fail)
   all_goals try (exfalso; simp only [dT, dF] at hb; omega)
   refine AW.cut (fun af h => ∃ (s' : WS) (k' : NT), af = [(0, .ref bw 0), (1, .ref b 0), (5, ints A), (6, .int .i64 hf), (7, .sl ((tupL s.N hf L).map ints)), (8, .bool al), (9, .osl bm L L), (10, qV bq o td.length c), (11, .int .i64 x), (12, .int .i64 j), (158, .bool (!my && R x j))] ∧
    h = .row bq (pre ++ td.map (fun x : Nat => AV.int .i64 x) ++ rest) :: .row bm (met.map bav) :: m2.xr :: .box b (nbox f [k.b] m2) :: hH bw s' k' ∧ Same s s' ∧ k'.b = k.b ∧ k'.f = k.f ∧ KOk s.N M T0 k') ?_ ?_
   ·cases my with
    | true =>
     repeat' (first | (refine AW.dq 16 ?_; refine AQ.es 2 ?_; refine AQ.p rfl (AOp.index_osl rfl rfl (by omega) (by omega) (by kernel_rfl)) ?_; refine AQ.p rfl (AOp.load_cell 1 rfl rfl hmy' rfl (by kernel_rfl)) ?_; refine AQ.es 2 ?_; refine AQ.es 2 ?_; refine AQ.es 2 ?_; refine AQ.k ?_; refine AQ.k ?_; refine AQ.k ?_; refine AQ.es 3 ?_; refine AQ.k ?_; refine AQ.es 1 ?_; refine AQ.k ?_; refine AQ.k ?_; refine AQ.k ?_; refine AQ.es 2 ?_; refine AQ.es 3 ?_; refine AQ.es 3 ?_; refine AQ.k ?_; refine AQ.k ?_; refine AQ.k ?_; refine AQ.k ?_; refine AQ.es 2 ?_; refine AQ.k ?_; refine AQ.k ?_; refine AQ.k ?_; refine AQ.es 2 ?_; refine AQ.k ?_; refine AQ.k ?_; refine AQ.k ?_; refine AQ.es 2 ?_; refine AQ.k ?_; refine AQ.k ?_; refine AQ.k ?_; refine AQ.k ?_; refine AQ.k ?_; refine AQ.es 3 ?_; refine AQ.nil ?_) | fail)
     exact AW.meet [0, 1, 5, 6, 7, 8, 9, 10, 11, 12, 158] ⟨s3, k3, rfl, rfl, sm3, kb3, kf3, hk3⟩
    | false =>
     cases al with
     | true =>
      obtain ⟨fr, names, nn, t, rfl, hbit, hL64⟩ := htab rfl
      have hLL : s.N ^ f.Vars.length = L * L := by rw [hhv, Nat.pow_add, ← hL]
      have htl : t.bits.length = L * L := by rw [hbit]; unfold tcT; rw [lM, List.length_range, hLL]
      have hq2 : x * L + j < L * L := by
       have := Nat.mul_le_mul_right L (show x + 1 ≤ L by omega)
       rw [Nat.add_mul, Nat.one_mul] at this; omega
      have hLb : L * L ≤ 64 * 64 := Nat.mul_le_mul hL64 hL64
      have hI : (x : Int) * (L : Int) + (j : Int) = ((x * L + j : Nat) : Int) := by rw [Int.natCast_add, Int.natCast_mul]
      have hgt : (t.bits.map bav)[((x : Int) * (L : Int) + (j : Int)).toNat]? = some (bav (R x j)) := by
       rw [hI, Int.toNat_natCast, hbit]
       unfold tcT
       refine map_get ?_
       rw [List.getElem?_map, List.getElem?_range (by rw [hLL]; exact hq2), hR]
       have := tup_app s.N (by have := hs.n1; omega) hf hf x j (by rw [← hL]; exact hlt)
       rw [← hL, ← hhv] at this
       rw [Option.map_some, this]
      generalize x * L + j = q at *
      generalize L * L = LL at *
      repeat' (first | (refine AW.dq 16 ?_; refine AQ.es 2 ?_; refine AQ.p rfl (AOp.index_osl rfl rfl (by omega) (by omega) (by kernel_rfl)) ?_; refine AQ.p rfl (AOp.load_cell 1 rfl rfl hmy' rfl (by kernel_rfl)) ?_; refine AQ.es 2 ?_; refine AQ.es 2 ?_; refine AQ.es 2 ?_; refine AQ.gp rfl (AOp.fr 12) ?_; refine AQ.gp rfl (AOp.fr 2) ?_; refine AQ.gp rfl (AOp.ll 3) ?_; refine AQ.es 2 ?_; refine AQ.gp rfl (AOp.len rfl hAll (by kernel_rfl)) ?_; refine AQ.gp rfl (AOp.mul rfl rfl (by omega)) ?_; refine AQ.es 1 ?_; refine AQ.gp rfl (AOp.add rfl rfl (by omega)) ?_; refine AQ.gp rfl (AOp.index_osl rfl rfl (by omega) (by omega) (by kernel_rfl)) ?_; refine AQ.gp rfl (AOp.load_cell 2 rfl rfl hgt rfl (by kernel_rfl)) ?_; refine AQ.es 2 ?_; ((refine AQ.x (fun hb => ?_) (fun hb => ?_) <;> refine AQ.es 3 ?_)) <;> (refine AQ.es 3 ?_) <;> (refine AQ.k ?_) <;> (refine AQ.k ?_) <;> (refine AQ.k ?_) <;> (refine AQ.k ?_) <;> refine AQ.es 2 ?_ <;> (refine AQ.k ?_) <;> (refine AQ.k ?_) <;> (refine AQ.k ?_) <;> refine AQ.es 2 ?_ <;> (refine AQ.k ?_) <;> (refine AQ.k ?_) <;> (refine AQ.k ?_) <;> refine AQ.es 2 ?_ <;> (refine AQ.k ?_) <;> (refine AQ.k ?_) <;> (refine AQ.k ?_) <;> (refine AQ.k ?_) <;> (refine AQ.k ?_) <;> refine AQ.es 3 ?_ <;> refine AQ.nil ?_) | fail)
      all_goals first
       | exact AW.meet [0, 1, 5, 6, 7, 8, 9, 10, 11, 12, 158] ⟨s3, k3, by rw [show (!false && R x j) = true by simpa using hb]; rfl, rfl, sm3, kb3, kf3, hk3⟩
       | exact AW.meet [0, 1, 5, 6, 7, 8, 9, 10, 11, 12, 158] ⟨s3, k3, by rw [show (!false && R x j) = false by simpa using hb]; rfl, rfl, sm3, kb3, kf3, hk3⟩
     | false =>
      have hax : ((tupL s.N hf L).map ints)[((x : Nat) : Int).toNat]? = some (ints (tup s.N hf x)) := map_get (tupL_get hxL)
      have hay : ((tupL s.N hf L).map ints)[((j : Nat) : Int).toNat]? = some (ints (tup s.N hf j)) := map_get (tupL_get hlt)
      have hkx' : ([k.b].map fun b => AV.ref b 0)[(0 : Int).toNat]? = some (.ref k.b 0) := rfl
      have htl : (tup s.N hf x ++ tup s.N hf j).length = f.Vars.length := by rw [lA, tup_len, tup_len, hhv]
      have htm : ∀ y ∈ tup s.N hf x ++ tup s.N hf j, 0 ≤ y ∧ y < s.N := fun y hy => (List.mem_append.1 hy).elim (tup_mem (by have := hs.n1; omega) _ _ y) (tup_mem (by have := hs.n1; omega) _ _ y)
      have hHx := (H2 _ htl htm).same0 sm3 kb3 kf3
      have hN3 : s3.N = s.N := sm3.N
      have hW := w_With_ro bw (KOk s.N M T0) (R x j) k3 s3 f.Vars (tup s.N hf x ++ tup s.N hf j) sm3.ok htl (by rw [sm3.ns]; exact hn) (fun y hy => by rw [hN3]; exact htm y hy)
       (fun s' h1 h2 h3 h4 h5 h6 => by rw [hR]; exact hHx s' k3 h1 h2 h3 h4 h5 h6 rfl rfl hk3)
      rw [kb3] at hW
      have e3 : ints (tup s.N hf x ++ tup s.N hf j) = .sl ([] ++ (tup s.N hf x).map iav ++ (tup s.N hf j).map iav) := by unfold ints; rw [List.map_append]; rfl
      have hl1 : ((tup s.N hf x).map iav).length = hf := by rw [lM, tup_len]
      have hl2 : ((tup s.N hf j).map iav).length = hf := by rw [lM, tup_len]
      have hz1 : ∀ y ∈ (tup s.N hf x).map iav, y.size = 1 := all_map fun _ => rfl
      have hz2 : ∀ y ∈ (tup s.N hf j).map iav, y.size = 1 := all_map fun _ => rfl
      have hz3 : ∀ y ∈ [] ++ (tup s.N hf x).map iav, y.size = 1 := by rw [List.nil_append]; exact hz1
      have ho1 : AV.cellsOK ((tup s.N hf x).map iav) = true := ok_map fun _ => rfl
      have ho2 : AV.cellsOK ((tup s.N hf j).map iav) = true := ok_map fun _ => rfl
      rw [e3] at hW
      refine AW.perm (perm_4e _ _ _ _ _) ?_
      repeat' (first | fail)
      refine AW.exploreA [32, 37, 42, 49, 50, 51, 52] rfl (by kernel_rfl) (by kernel_rfl) (by kernel_rfl) (by kernel_rfl) ?_
      refine AQE.ev rfl rfl rfl rfl ?_
      refine AQE.ev rfl rfl rfl rfl ?_
      refine AQE.op rfl (AOp.index_osl rfl rfl (by omega) (by omega) (by kernel_rfl)) rfl rfl ?_
      refine AQE.op rfl (AOp.load_cell 1 rfl rfl hmy' rfl (by kernel_rfl)) rfl rfl ?_
      refine AQE.ev rfl rfl rfl rfl ?_
      refine AQE.ev rfl rfl rfl rfl ?_
      first | refine AQE.ge ?_ | refine AQE.k ?_
      first | refine AQE.ge ?_ | refine AQE.k ?_
      first | refine AQE.ge ?_ | refine AQE.k ?_
      first | refine AQE.ge ?_ | refine AQE.k ?_
      first | first | refine AQE.gop rfl AOp.fa rfl rfl ?_ | refine AQE.skip rfl rfl rfl ?_ | first | refine AQE.gop rfl (AOp.fr 12) rfl rfl ?_ | refine AQE.skip rfl rfl rfl ?_
      first | first | refine AQE.gop rfl AOp.fa rfl rfl ?_ | refine AQE.skip rfl rfl rfl ?_ | first | refine AQE.gop rfl (AOp.fr 2) rfl rfl ?_ | refine AQE.skip rfl rfl rfl ?_
      first | refine AQE.gop rfl (AOp.la) rfl rfl ?_ | refine AQE.skip rfl rfl rfl ?_
      first | refine AQE.ge ?_ | refine AQE.k ?_
      first | refine AQE.ge ?_ | refine AQE.k ?_
      first | refine AQE.gop rfl (AOp.len rfl hAll (by kernel_rfl)) rfl rfl ?_ | refine AQE.skip rfl rfl rfl ?_
      first | refine AQE.ge ?_ | refine AQE.k ?_
      first | refine AQE.ge ?_ | refine AQE.k ?_
      first | refine AQE.ge ?_ | refine AQE.k ?_
      first | refine AQE.gop rfl (AOp.index_osl rfl rfl (by omega) (by omega) (by kernel_rfl)) rfl rfl ?_ | refine AQE.skip rfl rfl rfl ?_
      first | refine AQE.gop rfl (AOp.la) rfl rfl ?_ | refine AQE.skip rfl rfl rfl ?_
      first | refine AQE.ge ?_ | refine AQE.k ?_
      first | refine AQE.ge ?_ | refine AQE.k ?_
      first | refine AQE.ge ?_ | refine AQE.k ?_
      first | refine AQE.ge ?_ | refine AQE.k ?_
      first | refine AQE.ge ?_ | refine AQE.k ?_
      first | refine AQE.ge ?_ | refine AQE.k ?_
      first | refine AQE.ge ?_ | refine AQE.k ?_
      first | refine AQE.ge ?_ | refine AQE.k ?_
      first | first | refine AQE.gop rfl AOp.fa rfl rfl ?_ | refine AQE.skip rfl rfl rfl ?_ | first | refine AQE.gop rfl (AOp.fr 0) rfl rfl ?_ | refine AQE.skip rfl rfl rfl ?_
      first | first | refine AQE.gop rfl AOp.fa rfl rfl ?_ | refine AQE.skip rfl rfl rfl ?_ | first | refine AQE.gop rfl (AOp.fr 3) rfl rfl ?_ | refine AQE.skip rfl rfl rfl ?_
      first | refine AQE.gop rfl (AOp.ll 3) rfl rfl ?_ | refine AQE.skip rfl rfl rfl ?_
      refine AQE.hole rfl rfl ?_
      first | refine AQE.ge ?_ | refine AQE.k ?_
      first | refine AQE.ge ?_ | refine AQE.k ?_
      first | refine AQE.gop rfl (iX hax) rfl rfl ?_ | refine AQE.skip rfl rfl rfl ?_
      first | refine AQE.gop rfl (AOp.la) rfl rfl ?_ | refine AQE.skip rfl rfl rfl ?_
      refine AQE.hole rfl rfl ?_
      first | refine AQE.ge ?_ | refine AQE.k ?_
      first | refine AQE.ge ?_ | refine AQE.k ?_
      first | refine AQE.gop rfl (iX hay) rfl rfl ?_ | refine AQE.skip rfl rfl rfl ?_
      first | refine AQE.gop rfl (AOp.la) rfl rfl ?_ | refine AQE.skip rfl rfl rfl ?_
      refine AQE.hole rfl rfl ?_
      first | refine AQE.ge ?_ | refine AQE.k ?_
      first | refine AQE.ge ?_ | refine AQE.k ?_
      first | first | refine AQE.gop rfl AOp.fa rfl rfl ?_ | refine AQE.skip rfl rfl rfl ?_ | first | refine AQE.gop rfl (AOp.fr 6) rfl rfl ?_ | refine AQE.skip rfl rfl rfl ?_
      first | refine AQE.gop rfl (AOp.ll 3) rfl rfl ?_ | refine AQE.skip rfl rfl rfl ?_
      first | refine AQE.gop rfl (iX hkx') rfl rfl ?_ | refine AQE.skip rfl rfl rfl ?_
      first | refine AQE.gop rfl (AOp.la) rfl rfl ?_ | refine AQE.skip rfl rfl rfl ?_
      refine AQE.hole rfl rfl ?_
      refine AQE.hole rfl rfl ?_
      refine AQE.hole rfl rfl ?_
      refine AQE.hole rfl rfl ?_
      refine AQE.nil ?_
      repeat' (first | refine AX.one (n := 6) 32 rfl ?_ | refine AX.one (n := 5) 37 rfl ?_ | refine AX.one (n := 4) 42 rfl ?_ | refine AX.one (n := 3) 49 rfl ?_ | refine AX.one (n := 2) 50 rfl ?_ | refine AX.one (n := 1) 51 rfl ?_ | refine AX.one (n := 0) 52 rfl ?_ | (refine AXS.gstep (i := 32) rfl rfl rfl (AOp.lit_own (e := 3) (sz := 1) (by kernel_rfl) rfl rfl rfl P_nil (by decide)) ?_ (by rintro _ _ ⟨_, e, _⟩; cases e); rintro _ _ ⟨b1, e, rfl⟩; injection e with e; subst e; dsimp only [sA, sB, sC, sD]) | (refine AXS.gstep (i := 37) rfl rfl rfl (AOp.append (i := 0) (xs := []) (ys := (tup s.N hf x).map iav) (e := 3) (sz := 1) (bytes := 8) rfl rfl rfl rfl (by kernel_rfl) (by kernel_rfl) P_nil hz1 ho1 (by rw [hl1]; simp; omega) (by rw [hl1]; simp; omega)) ?_ (by rintro _ _ ⟨_, _, e, _⟩; cases e); rintro _ _ ⟨b2, c2, e, rfl⟩; injection e with e; subst e; dsimp only [sA, sB, sC, sD]) | (refine AXS.gstep (i := 42) rfl rfl rfl (AOp.append (i := 0) (xs := [] ++ (tup s.N hf x).map iav) (ys := (tup s.N hf j).map iav) (e := 3) (sz := 1) (bytes := 8) rfl rfl rfl rfl (by kernel_rfl) (by kernel_rfl) hz3 hz2 ho2 (by rw [hl2, List.nil_append, hl1]; omega) (by rw [hl2, List.nil_append, hl1]; omega)) ?_ (by rintro _ _ ⟨_, _, e, _⟩; cases e); rintro _ _ ⟨b3, c3, e, rfl⟩; injection e with e; subst e; dsimp only [sA, sB, sC, sD]) | (refine AXS.gstep (i := 49) rfl rfl rfl (AOp.callV (args := [.ref bw 0, strs f.Vars, .sl ([] ++ (tup s.N hf x).map iav ++ (tup s.N hf j).map iav), .ref k.b 0]) rfl (fun S w a hfr => relvs_slt hfr rfl rfl rfl rfl) (Tri.ahead hW [_])) ?_ (by rintro _ _ ⟨_, ⟨e, _⟩, _⟩; cases e); rintro _ _ ⟨_, ⟨e, s4, k4, rfl, sm4, kb4, kf4, hk4⟩, rfl⟩; injection e with e; subst e; dsimp only [sA, sB, sC, sD]) | (refine AXS.gdet (i := 50) rfl rfl rfl (AOp.ev rfl) ?_; dsimp only [sA, sB, sC, sD]) | (refine AXS.gdet (i := 51) rfl rfl rfl (AOp.ev rfl) ?_; dsimp only [sA, sB, sC, sD]) | (refine AXS.det (i := 52) rfl rfl rfl (AOp.ev rfl) ?_; dsimp only [sA, sB, sC, sD]) | fail)
      all_goals refine AX.done_keep [0,1,5,6,7,8,9,10,11,12,158] ?_
      refine AW.drop (ah' := hH bw s4 k4 ++ [.row bq (pre ++ td.map (fun x : Nat => AV.int .i64 x) ++ rest), .row bm (met.map bav), m2.xr, .box b (nbox f [k.b] m2)]) (List.sublist_cons_self _ _) ?_
      exact AW.perm (perm_4e _ _ _ _ _).symm (AW.meet [0, 1, 5, 6, 7, 8, 9, 10, 11, 12, 158] ⟨s4, k4, rfl, rfl, sm3.trans sm4, kb4.trans kb3, kf4.trans kf3, hk4⟩)
   rintro _ _ ⟨s4, k4, rfl, rfl, sm4, kb4, kf4, hk4⟩
   have hst : ((j : Nat) : Int).toNat < (met.map bav).length := by rw [lM]; omega
   have hset : (met.map bav).set ((j : Nat) : Int).toNat (.bool true) = (met.set j true).map bav := by rw [List.map_set]; rfl
   cases hc : (!my && R x j) with
   | true =>
    have hmy0 : my = false := by
     cases hq : my with
     | false => rfl
     | true => rw [hq] at hc; cases hc
    have hRx : R x j = true := by rw [hmy0] at hc; exact hc
    have hcn := cnt_set (met := met) (j := j) (by omega) (by rw [hmd, hmy0])
    have hcs := cnt_le (met.set j true)
    rw [List.length_set, hml] at hcs
    repeat' (first | (refine xS 17 2 ?_; refine AL.d (AOp.index_osl rfl rfl (by omega) (by omega) (by kernel_rfl)) ?_; refine AL.store_cell 1 rfl rfl rfl hst rfl rfl (by kernel_rfl) ?_; refine AL.nil ?_) | (refine xS 18 2 ?_; refine AL.d (AOp.lit (e := 3) (sz := 1) (by kernel_rfl) rfl rfl rfl (P_one rfl) (by decide)) ?_; refine AL.append_q 0 (pre := pre) (us := td.map fun x : Nat => AV.int .i64 x) (rs := rest) (e := 3) (bytes := 8) rfl rfl hpre (lM _) hc2 hc1 rfl rfl rfl (by kernel_rfl) (by kernel_rfl) (by omega) (by omega) rfl fun bq' o' c' pre' rs' q1 q2 q3 => ?_; refine xN 1 ?_) | (refine xS 15 1 ?_; refine AL.d AOp.ad ?_; refine xN 1 ?_) | refine AW.jt ?_ | fail)
    refine AW.again_keep (L - (j + 1)) [0, 1, 5, 6, 7, 8, 9, 10, 11, 12] (by omega) ⟨j + 1, met.set j true, td ++ [j], bq', o', c', pre', rs', s4, k4, hlt, rfl, ?_, ?_, q1, ?_, ?_, hBJ.yes hlt hRx, ?_, sm4, kb4, kf4, hk4⟩
    ·rw [lA]; rfl
    ·rw [← hset, List.map_append]; rfl
    ·rw [lA, List.length_singleton]; exact q2
    ·rw [lA, List.length_singleton]; exact q3
    ·rw [lA, List.length_singleton]; omega
   | false =>
    have hno2 : met.getD j false = true ∨ R x j = false := by
     rw [hmd]
     cases hq : my with
     | true => exact .inl rfl
     | false => rw [hq] at hc; exact .inr hc
    repeat' (first | (refine xS 15 1 ?_; refine AL.d AOp.ad ?_; refine xN 1 ?_) | refine AW.jf ?_ | fail)
    exact AW.again_keep (L - (j + 1)) [0, 1, 5, 6, 7, 8, 9, 10, 11, 12] (by omega) ⟨j + 1, met, td, bq, o, c, pre, rest, s4, k4, hlt, rfl, rfl, rfl, hpre, hc1, hc2, hBJ.no hno2, hmz, sm4, kb4, kf4, hk4⟩
  ·obtain rfl : j = L := by omega
   repeat' (first | (refine xS 14 2 ?_; refine AL.d (AOp.len rfl hAll (by kernel_rfl)) ?_; refine xN 1 ?_) | refine AW.jj (fun hb => ?_) (fun hb => ?_) | refine AW.go ?_ | fail)
   all_goals try (exfalso; simp only [dT, dF] at hb; omega)
   exact AW.again_keep (2 * (j - cntB met) + td.length) [0, 1, 5, 6, 7, 8, 9, 10] hmz ⟨met, td, bq, o, c, pre, rest, s3, k3, rfl, rfl, hpre, hc1, hc2, hBJ.done, rfl, by omega, sm3, kb3, kf3, hk3⟩
theorem sem_0 (N M : Nat) (f : GFml) (T : TT) (V : VV) (h : f.Kind = 0) : sem N M f T V = (match lkT T f.Name with | none => false | some bits => bits.getD (rankI N (f.Args.map (val V)) 0).toNat false) := by
 obtain ⟨k, ar, nm, vars, args, kids⟩ := f
 simp only at h; subst h; rw [sem]; rfl
theorem sem_1 (N M : Nat) (f : GFml) (T : TT) (V : VV) (h : f.Kind = 1) : sem N M f T V = (val V (f.Args.getD 0 empB) == val V (f.Args.getD 1 empB)) := by
 obtain ⟨k, ar, nm, vars, args, kids⟩ := f
 simp only at h; subst h; rw [sem]; rfl
theorem sem_2 (N M : Nat) (f : GFml) (T : TT) (V : VV) (h : f.Kind = 2) : sem N M f T V = decide (val V (f.Args.getD 0 empB) < val V (f.Args.getD 1 empB)) := by
 obtain ⟨k, ar, nm, vars, args, kids⟩ := f
 simp only at h; subst h; rw [sem]; rfl
theorem sem_3 (N M : Nat) (f : GFml) (T : TT) (V : VV) (h : f.Kind = 3) : sem N M f T V = !semH N M f.Kids T V := by
 obtain ⟨k, ar, nm, vars, args, kids⟩ := f
 simp only at h; subst h; rw [sem]; rfl
theorem sem_4 (N M : Nat) (f : GFml) (T : TT) (V : VV) (h : f.Kind = 4) : sem N M f T V = semA N M f.Kids T V := by
 obtain ⟨k, ar, nm, vars, args, kids⟩ := f
 simp only at h; subst h; rw [sem]; rfl
theorem sem_5 (N M : Nat) (f : GFml) (T : TT) (V : VV) (h : f.Kind = 5) : sem N M f T V = semO N M f.Kids T V := by
 obtain ⟨k, ar, nm, vars, args, kids⟩ := f
 simp only at h; subst h; rw [sem]; rfl
theorem sem_6 (N M : Nat) (f : GFml) (T : TT) (V : VV) (h : f.Kind = 6) : sem N M f T V = (List.range (N ^ f.Vars.length)).any fun i => semH N M f.Kids T (V ++ f.Vars.zip (tup N f.Vars.length i)) := by
 obtain ⟨k, ar, nm, vars, args, kids⟩ := f
 simp only at h; subst h; rw [sem]; rfl
theorem sem_7 (N M : Nat) (f : GFml) (T : TT) (V : VV) (h : f.Kind = 7) : sem N M f T V = !(List.range (N ^ f.Vars.length)).any fun i => !semH N M f.Kids T (V ++ f.Vars.zip (tup N f.Vars.length i)) := by
 obtain ⟨k, ar, nm, vars, args, kids⟩ := f
 simp only at h; subst h; rw [sem]; rfl
theorem nbox_sub (f : GFml) (kb : List Nat) (m : Mm) : (nbox f kb m).sub 0 true 6 = some f.st := by cases m <;> rfl
theorem w_H0 (bw M : Nat) (K : NT → Prop) (n : NT) (s : WS) (hs : s.Ok) (hk : K n) (hkd : n.f.Kind = 0) (hl : n.f.Args.length ≤ 24) (hok : ∀ c, lkT (tl s.T) n.f.Name = some c → c = s.N ^ n.f.Args.length ∧ c ≤ 4096) :
  Tri Tryz.prog 155 [.ref bw 0, .ref n.b 0] (hH bw s n) (HPost bw s n K (.bool (sem s.N M n.f s.T s.V)) []) := by
 have hVal := Vals_H bw s hs n n.f.Args (by omega)
 have hval := val_in hs n.f.Args
 have hIn : Tri Tryz.prog 175 [.ref bw 0, .str n.f.Name, ints (n.f.Args.map (val s.V))] (hH bw s n) (D (.bool (sem s.N M n.f s.T s.V)) (hH bw s n)) := by
  rw [sem_0 s.N M n.f s.T s.V hkd]
  exact (w_in bw s hs n.f.Name (n.f.Args.map (val s.V)) (by rw [lM]; omega) hval (fun bits hb => by
   have := hok bits.length (by rw [lkT_tl, hb]; rfl)
   rw [lM]; exact ⟨by omega, this.1⟩)).aroundD [n.bx] n.rest
 generalize sem s.N M n.f s.T s.V = v at *
 obtain ⟨b, ⟨k, ar, nm, vars, args, kk⟩, m, kids⟩ := n
 obtain rfl : k = 0 := hkd
 refine Tri.enter 134 Tryz.func155 rfl rfl rfl rfl fun Fr w0 => ?_
 repeat' (first | refine AW.re 0 1 ?_ | (refine xS 1 2 ?_; refine AL.d (AOp.fr 0) ?_; (refine AL.d (AOp.load_ref (i := 0) (v := .st [.int .i64 0, .int .i64 ar, .str nm, strs vars, strs args, .sl (kk.map GFml.av)]) rfl rfl (nbox_sub _ _ _) (by kernel_rfl)) ?_) <;> refine AL.alloc_store (by kernel_rfl) rfl rfl rfl rfl ?_ <;> refine AL.nil ?_) | (refine AW.r 2 ?_; refine AL.d AOp.fa ?_; refine AL.d AOp.la ?_; refine AL.nil ?_) | refine AW.re 3 2 ?_ | (refine AW.dq 4 ?_; refine AQ.es 1 ?_; refine AQ.p rfl AOp.fa ?_; refine AQ.p rfl AOp.la ?_; refine AQ.es 1 ?_; refine AQ.p rfl AOp.fa ?_; refine AQ.p rfl AOp.la ?_; refine AQ.p rfl (AOp.call rfl rfl hVal) ?_; refine AQ.p rfl (AOp.call rfl rfl hIn) ?_; refine AQ.es 1 ?_; refine AQ.nil ?_) | refine AW.jt ?_ | fail)
 exact AW.retv rfl ⟨rfl, s, _, rfl, Same.refl hs, rfl, rfl, hk⟩
theorem w_H1 (bw M : Nat) (K : NT → Prop) (n : NT) (s : WS) (hs : s.Ok) (hk : K n) (hkd : n.f.Kind = 1) (hl : n.f.Args.length = 2) :
  Tri Tryz.prog 155 [.ref bw 0, .ref n.b 0] (hH bw s n) (HPost bw s n K (.bool (sem s.N M n.f s.T s.V)) []) := by
 have hv := fun v => (w_value bw s hs v).aroundD [n.bx] n.rest
 rw [sem_1 s.N M n.f s.T s.V hkd]
 obtain ⟨b, ⟨k, ar, nm, vars, args, kk⟩, m, kids⟩ := n
 obtain rfl : k = 1 := hkd
 obtain ⟨a0, a1, rfl⟩ : ∃ a0 a1, args = [a0, a1] := by
  match args, hl with
  | [a0, a1], _ => exact ⟨a0, a1, rfl⟩
 have h0 : ([a0, a1].map AV.str)[(0 : Int).toNat]? = some (.str a0) := rfl
 have h1 : ([a0, a1].map AV.str)[(1 : Int).toNat]? = some (.str a1) := rfl
 have hv0 := hv a0
 have hv1 := hv a1
 refine Tri.enter 134 Tryz.func155 rfl rfl rfl rfl fun Fr w0 => ?_
 repeat' (first | refine AW.re 0 1 ?_ | (refine xS 1 2 ?_; refine AL.d (AOp.fr 0) ?_; (refine AL.d (AOp.load_ref (i := 0) (v := .st [.int .i64 1, .int .i64 ar, .str nm, strs vars, strs [a0, a1], .sl (kk.map GFml.av)]) rfl rfl (nbox_sub _ _ _) (by kernel_rfl)) ?_) <;> refine AL.alloc_store (by kernel_rfl) rfl rfl rfl rfl ?_ <;> refine AL.nil ?_) | (refine AW.r 2 ?_; refine AL.d AOp.fa ?_; refine AL.d AOp.la ?_; refine AL.nil ?_) | refine AW.re 3 2 ?_ | refine AW.re 5 2 ?_ | (refine AW.dq 6 ?_; refine AQ.es 1 ?_; refine AQ.p rfl AOp.fa ?_; refine AQ.p rfl AOp.la ?_; refine AQ.p rfl (iX h0) ?_; refine AQ.p rfl AOp.la ?_; refine AQ.p rfl (AOp.call rfl rfl hv0) ?_; refine AQ.es 1 ?_; refine AQ.p rfl AOp.fa ?_; refine AQ.p rfl AOp.la ?_; refine AQ.p rfl (iX h1) ?_; refine AQ.p rfl AOp.la ?_; refine AQ.p rfl (AOp.call rfl rfl hv1) ?_; refine AQ.es 2 ?_; refine AQ.nil ?_) | refine AW.jt ?_ | refine AW.jf ?_ | fail)
 exact AW.retv rfl ⟨rfl, s, _, rfl, Same.refl hs, rfl, rfl, hk⟩
theorem w_H2 (bw M : Nat) (K : NT → Prop) (n : NT) (s : WS) (hs : s.Ok) (hk : K n) (hkd : n.f.Kind = 2) (hl : n.f.Args.length = 2) :
  Tri Tryz.prog 155 [.ref bw 0, .ref n.b 0] (hH bw s n) (HPost bw s n K (.bool (sem s.N M n.f s.T s.V)) []) := by
 have hv := fun v => (w_value bw s hs v).aroundD [n.bx] n.rest
 rw [sem_2 s.N M n.f s.T s.V hkd]
 obtain ⟨b, ⟨k, ar, nm, vars, args, kk⟩, m, kids⟩ := n
 obtain rfl : k = 2 := hkd
 obtain ⟨a0, a1, rfl⟩ : ∃ a0 a1, args = [a0, a1] := by
  match args, hl with
  | [a0, a1], _ => exact ⟨a0, a1, rfl⟩
 have h0 : ([a0, a1].map AV.str)[(0 : Int).toNat]? = some (.str a0) := rfl
 have h1 : ([a0, a1].map AV.str)[(1 : Int).toNat]? = some (.str a1) := rfl
 have hv0 := hv a0
 have hv1 := hv a1
 refine Tri.enter 134 Tryz.func155 rfl rfl rfl rfl fun Fr w0 => ?_
 repeat' (first | refine AW.re 0 1 ?_ | (refine xS 1 2 ?_; refine AL.d (AOp.fr 0) ?_; (refine AL.d (AOp.load_ref (i := 0) (v := .st [.int .i64 2, .int .i64 ar, .str nm, strs vars, strs [a0, a1], .sl (kk.map GFml.av)]) rfl rfl (nbox_sub _ _ _) (by kernel_rfl)) ?_) <;> refine AL.alloc_store (by kernel_rfl) rfl rfl rfl rfl ?_ <;> refine AL.nil ?_) | (refine AW.r 2 ?_; refine AL.d AOp.fa ?_; refine AL.d AOp.la ?_; refine AL.nil ?_) | refine AW.re 3 2 ?_ | refine AW.re 5 2 ?_ | refine AW.re 7 2 ?_ | (refine AW.dq 8 ?_; refine AQ.es 1 ?_; refine AQ.p rfl AOp.fa ?_; refine AQ.p rfl AOp.la ?_; refine AQ.p rfl (iX h0) ?_; refine AQ.p rfl AOp.la ?_; refine AQ.p rfl (AOp.call rfl rfl hv0) ?_; refine AQ.es 1 ?_; refine AQ.p rfl AOp.fa ?_; refine AQ.p rfl AOp.la ?_; refine AQ.p rfl (iX h1) ?_; refine AQ.p rfl AOp.la ?_; refine AQ.p rfl (AOp.call rfl rfl hv1) ?_; refine AQ.es 2 ?_; refine AQ.nil ?_) | refine AW.jt ?_ | refine AW.jf ?_ | fail)
 exact AW.retv rfl ⟨rfl, s, _, rfl, Same.refl hs, rfl, rfl, hk⟩
theorem w_H3 (bw M : Nat) (K Kn : NT → Prop) (n k : NT) (s : WS) (v : Bool) (hs : s.Ok) (hkid : n.kids[0]? = some k) (hk : K k) (hKn : ∀ k', k'.b = k.b → k'.f = k.f → K k' → Kn (n.put 0 k')) (hkd : n.f.Kind = 3) (H : HoldsAt bw K s k [] [] v) :
  Tri Tryz.prog 155 [.ref bw 0, .ref n.b 0] (hH bw s n) (HPost bw s n Kn (.bool (!v)) []) := by
 have hH0 := kidH (Y := []) hkid (H s k hs rfl rfl rfl (by simp) (by simp) rfl rfl hk) hKn
 obtain ⟨b, ⟨kd, ar, nm, vars, args, kk⟩, m, kids⟩ := n
 obtain rfl : kd = 3 := hkd
 have hkx : ((kids.map NT.b).map fun b => AV.ref b 0)[(0 : Int).toNat]? = some (.ref k.b 0) := by
  have h' : kids[0]? = some k := hkid
  rw [List.getElem?_map, List.getElem?_map, show (0 : Int).toNat = 0 from rfl, h']; rfl
 refine Tri.enter 134 Tryz.func155 rfl rfl rfl rfl fun Fr w0 => ?_
 repeat' (first | refine AW.re 0 1 ?_ | (refine xS 1 2 ?_; refine AL.d (AOp.fr 0) ?_; (refine AL.d (AOp.load_ref (i := 0) (v := .st [.int .i64 3, .int .i64 ar, .str nm, strs vars, strs args, .sl (kk.map GFml.av)]) rfl rfl (nbox_sub _ _ _) (by kernel_rfl)) ?_) <;> refine AL.alloc_store (by kernel_rfl) rfl rfl rfl rfl ?_ <;> refine AL.nil ?_) | (refine AW.r 2 ?_; refine AL.d AOp.fa ?_; refine AL.d AOp.la ?_; refine AL.nil ?_) | refine AW.re 3 2 ?_ | refine AW.re 5 2 ?_ | refine AW.re 7 2 ?_ | refine AW.re 9 2 ?_ | (refine xS 10 3 ?_; refine AL.d (AOp.fr 6) ?_; refine AL.d (AOp.ll 0) ?_; refine AL.d (iX hkx) ?_; refine AL.d AOp.la ?_; (refine AL.callQ rfl rfl hH0 rfl ?_ ?_; rotate_left; rintro _ _ ⟨e, _⟩; cases e; rintro _ _ ⟨e, s2, n2, rfl, sm, nb, nf, hk2⟩; injection e with e; subst e) <;> refine AL.es 2 ?_ <;> refine AL.nil ?_) | refine AW.jt ?_ | refine AW.jf ?_ | fail)
 exact AW.retv rfl ⟨rfl, s2, n2, rfl, sm, nb, nf, hk2⟩
theorem w_H4 (bw N M : Nat) (T0 : TT) (n : NT) (s : WS) (hs : s.Ok) (hkd : n.f.Kind = 4) (hl : n.f.Kids.length ≤ 1000000) (hK : KOk N M T0 n)
  (H : ∀ (i : Nat) x, n.f.Kids[i]? = some x → ∀ k', k'.f = x → HoldsAt bw (KOk N M T0) s k' [] [] (sem N M x s.T s.V)) :
  Tri Tryz.prog 155 [.ref bw 0, .ref n.b 0] (hH bw s n) (HPost bw s n (KOk N M T0) (.bool (semA N M n.f.Kids s.T s.V)) []) := by
 obtain ⟨b, ⟨k, ar, nm, vars, args, kk⟩, m, kids⟩ := n
 obtain rfl : k = 4 := hkd
 have hl : kk.length ≤ 1000000 := hl
 refine Tri.enter 134 Tryz.func155 rfl rfl rfl rfl fun Fr w0 => ?_
 repeat' (first | refine AW.re 0 1 ?_ | (refine xS 1 2 ?_; refine AL.d (AOp.fr 0) ?_; (refine AL.d (AOp.load_ref (i := 0) (v := .st [.int .i64 4, .int .i64 ar, .str nm, strs vars, strs args, .sl (kk.map GFml.av)]) rfl rfl (nbox_sub _ _ _) (by kernel_rfl)) ?_) <;> refine AL.alloc_store (by kernel_rfl) rfl rfl rfl rfl ?_ <;> refine AL.nil ?_) | (refine AW.r 2 ?_; refine AL.d AOp.fa ?_; refine AL.d AOp.la ?_; refine AL.nil ?_) | refine AW.re 3 2 ?_ | refine AW.re 5 2 ?_ | refine AW.re 7 2 ?_ | refine AW.re 9 2 ?_ | refine AW.re 11 2 ?_ | refine AW.re 13 1 ?_ | refine AW.jt ?_ | refine AW.jf ?_ | refine AW.go ?_ | fail)
 refine AW.prune [0, 1, 5, 6] (AW.loop (fun mz af h => ∃ (i : Nat) (s' : WS) (n' : NT), i ≤ kk.length ∧ mz = kk.length - i ∧ af = [(0, .ref bw 0), (1, .ref b 0), (5, .at (.st [.int .i64 4, .int .i64 ar, .str nm, strs vars, strs args, .sl (kk.map GFml.av)])), (6, .int .i64 i)] ∧ h = hH bw s' n' ∧ Same s s' ∧ n'.b = b ∧ n'.f = ⟨4, ar, nm, vars, args, kk⟩ ∧ KOk N M T0 n' ∧ semA N M kk s.T s.V = semA N M (kk.drop i) s.T s.V) kk.length ⟨0, s, _, Nat.zero_le _, rfl, rfl, rfl, Same.refl hs, rfl, rfl, hK, rfl⟩ ?_)
 rintro mz af h ⟨i, s1, n1, hi, rfl, rfl, rfl, sm, nb, nf, hK1, he⟩
 have hkl : n1.kids.length = kk.length := by
  have := hK1; rw [KOk_eq] at this
  have := congrArg List.length this.2.1
  rw [lM, nf] at this; exact this
 have hlen : lenOf (.sl ((n1.kids.map NT.b).map fun b => AV.ref b 0)) = some ((kk.length : Nat) : Int) := by
  show some ((((n1.kids.map NT.b).map fun b => AV.ref b 0).length : Nat) : Int) = _
  rw [lM, lM, hkl]
 refine AW.seq ?_
 subst nb
 by_cases hlt : i < kk.length
 ·obtain ⟨x, hx⟩ := get_lt hlt
  obtain ⟨k1, hk1, hkf, hKk⟩ := KOk_kid hK1 (x := x) (i := i) (by rw [nf]; exact hx)
  have hkx : ((n1.kids.map NT.b).map fun b => AV.ref b 0)[((i : Nat) : Int).toNat]? = some (.ref k1.b 0) := by
   rw [List.getElem?_map, List.getElem?_map, Int.toNat_natCast, hk1]; rfl
  have hH0 := kidH (Y := []) (K' := KOk N M T0) hk1 ((H i x hx k1 hkf).same0 sm rfl rfl s1 k1 sm.ok rfl rfl rfl (by simp) (by simp) rfl rfl hKk) fun k' e1 e2 e3 => KOk_put hK1 hk1 e2 e3
  rw [drop_cons hx, semA] at he
  generalize sem N M x s.T s.V = v at *
  repeat' (first | (refine xS 14 3 ?_; refine AL.d (AOp.fr 6) ?_; refine AL.d (AOp.ll 0) ?_; refine AL.d (AOp.len rfl hlen (by kernel_rfl)) ?_; refine xN 1 ?_) | refine AW.jj (fun hb => ?_) (fun hb => ?_) | refine AW.go ?_ | fail)
  all_goals try (exfalso; simp only [dT, dF] at hb; omega)
  refine AW.frame_eq rfl (List.append_nil _).symm ?_
  repeat' (first | fail)
  refine AW.exploreA [8, 12] rfl (by kernel_rfl) (by kernel_rfl) (by kernel_rfl) (by kernel_rfl) ?_
  refine AQE.ev rfl rfl rfl rfl ?_
  refine AQE.ev rfl rfl rfl rfl ?_
  refine AQE.ev rfl rfl rfl rfl ?_
  first | refine AQE.op rfl AOp.fa rfl rfl ?_ | refine AQE.op rfl (AOp.fr 6) rfl rfl ?_
  refine AQE.pe rfl (AOp.ll 0) ?_
  refine AQE.ev rfl rfl rfl rfl ?_
  refine AQE.op rfl (iX hkx) rfl rfl ?_
  refine AQE.op rfl (AOp.la) rfl rfl ?_
  refine AQE.hole rfl rfl ?_
  first | refine AQE.op rfl AOp.fa rfl rfl ?_ | refine AQE.op rfl (AOp.fr 0) rfl rfl ?_
  refine AQE.op rfl (AOp.la) rfl rfl ?_
  refine AQE.ev rfl rfl rfl rfl ?_
  refine AQE.hole rfl rfl ?_
  refine AQE.nil ?_
  repeat' (first | refine AX.one (n := 1) 8 rfl ?_ | refine AX.one (n := 0) 12 rfl ?_ | (refine AXS.at (q := 8) rfl rfl ?_; refine AXO.callQ rfl rfl hH0 rfl ?_ ?_; rotate_left; rintro _ _ ⟨e, _⟩; cases e; rintro _ _ ⟨e, s2, n2, rfl, sm2, nb2, nf2, hK2⟩; injection e with e; subst e; dsimp only [sA, sB, sC, sD]) | (refine AXS.det (i := 12) rfl rfl rfl (AOp.bool_eq (by kernel_rfl) rfl rfl) ?_; dsimp only [sA, sB, sC, sD]) | fail)
  all_goals refine AX.done_keep [0,1,5,6,88] ?_
  refine AW.frame_eq rfl (show _ = hH bw s2 n2 from List.append_nil _) ?_
  repeat' (first | refine AW.re 17 4 ?_ | refine AW.jj (fun hb => ?_) (fun hb => ?_) | refine AW.go ?_ | fail)
  ·have hv : v = false := by simpa using hb
   exact AW.retv rfl ⟨by show _ = AEnd.ret (AV.bool (semA N M kk s.T s.V)); rw [he, hv]; rfl, s2, n2, rfl, sm.trans sm2, nb2, nf2.trans nf, hK2⟩
  ·have hv : v = true := by simpa using hb
   repeat' (first | (refine xS 15 1 ?_; refine AL.d AOp.ad ?_; refine xN 1 ?_) | fail)
   exact AW.again_keep (kk.length - (i + 1)) [0, 1, 5, 6] (by omega) ⟨i + 1, s2, n2, hlt, rfl, rfl, rfl, sm.trans sm2, nb2, nf2.trans nf, hK2, by rw [he, hv]; rfl⟩
 ·rw [List.drop_eq_nil_of_le (by omega), semA] at he
  repeat' (first | (refine xS 14 3 ?_; refine AL.d (AOp.fr 6) ?_; refine AL.d (AOp.ll 0) ?_; refine AL.d (AOp.len rfl hlen (by kernel_rfl)) ?_; refine xN 1 ?_) | refine AW.jj (fun hb => ?_) (fun hb => ?_) | refine AW.go ?_ | fail)
  all_goals try (exfalso; simp only [dT, dF] at hb; omega)
  repeat' (first | refine AW.re 18 4 ?_ | fail)
  exact AW.retv rfl ⟨by show _ = AEnd.ret (AV.bool (semA N M kk s.T s.V)); rw [he]; rfl, s1, n1, rfl, sm, rfl, nf, hK1⟩
theorem w_H5 (bw N M : Nat) (T0 : TT) (n : NT) (s : WS) (hs : s.Ok) (hkd : n.f.Kind = 5) (hl : n.f.Kids.length ≤ 1000000) (hK : KOk N M T0 n)
  (H : ∀ (i : Nat) x, n.f.Kids[i]? = some x → ∀ k', k'.f = x → HoldsAt bw (KOk N M T0) s k' [] [] (sem N M x s.T s.V)) :
  Tri Tryz.prog 155 [.ref bw 0, .ref n.b 0] (hH bw s n) (HPost bw s n (KOk N M T0) (.bool (semO N M n.f.Kids s.T s.V)) []) := by
 obtain ⟨b, ⟨k, ar, nm, vars, args, kk⟩, m, kids⟩ := n
 obtain rfl : k = 5 := hkd
 have hl : kk.length ≤ 1000000 := hl
 refine Tri.enter 134 Tryz.func155 rfl rfl rfl rfl fun Fr w0 => ?_
 repeat' (first | refine AW.re 0 1 ?_ | (refine xS 1 2 ?_; refine AL.d (AOp.fr 0) ?_; (refine AL.d (AOp.load_ref (i := 0) (v := .st [.int .i64 5, .int .i64 ar, .str nm, strs vars, strs args, .sl (kk.map GFml.av)]) rfl rfl (nbox_sub _ _ _) (by kernel_rfl)) ?_) <;> refine AL.alloc_store (by kernel_rfl) rfl rfl rfl rfl ?_ <;> refine AL.nil ?_) | (refine AW.r 2 ?_; refine AL.d AOp.fa ?_; refine AL.d AOp.la ?_; refine AL.nil ?_) | refine AW.re 3 2 ?_ | refine AW.re 5 2 ?_ | refine AW.re 7 2 ?_ | refine AW.re 9 2 ?_ | refine AW.re 11 2 ?_ | refine AW.re 12 2 ?_ | refine AW.re 13 1 ?_ | refine AW.jt ?_ | refine AW.jf ?_ | refine AW.go ?_ | fail)
 refine AW.prune [0, 1, 5, 6] (AW.loop (fun mz af h => ∃ (i : Nat) (s' : WS) (n' : NT), i ≤ kk.length ∧ mz = kk.length - i ∧ af = [(0, .ref bw 0), (1, .ref b 0), (5, .at (.st [.int .i64 5, .int .i64 ar, .str nm, strs vars, strs args, .sl (kk.map GFml.av)])), (6, .int .i64 i)] ∧ h = hH bw s' n' ∧ Same s s' ∧ n'.b = b ∧ n'.f = ⟨5, ar, nm, vars, args, kk⟩ ∧ KOk N M T0 n' ∧ semO N M kk s.T s.V = semO N M (kk.drop i) s.T s.V) kk.length ⟨0, s, _, Nat.zero_le _, rfl, rfl, rfl, Same.refl hs, rfl, rfl, hK, rfl⟩ ?_)
 rintro mz af h ⟨i, s1, n1, hi, rfl, rfl, rfl, sm, nb, nf, hK1, he⟩
 have hkl : n1.kids.length = kk.length := by
  have := hK1; rw [KOk_eq] at this
  have := congrArg List.length this.2.1
  rw [lM, nf] at this; exact this
 have hlen : lenOf (.sl ((n1.kids.map NT.b).map fun b => AV.ref b 0)) = some ((kk.length : Nat) : Int) := by
  show some ((((n1.kids.map NT.b).map fun b => AV.ref b 0).length : Nat) : Int) = _
  rw [lM, lM, hkl]
 refine AW.seq ?_
 subst nb
 by_cases hlt : i < kk.length
 ·obtain ⟨x, hx⟩ := get_lt hlt
  obtain ⟨k1, hk1, hkf, hKk⟩ := KOk_kid hK1 (x := x) (i := i) (by rw [nf]; exact hx)
  have hkx : ((n1.kids.map NT.b).map fun b => AV.ref b 0)[((i : Nat) : Int).toNat]? = some (.ref k1.b 0) := by
   rw [List.getElem?_map, List.getElem?_map, Int.toNat_natCast, hk1]; rfl
  have hH0 := kidH (Y := []) (K' := KOk N M T0) hk1 ((H i x hx k1 hkf).same0 sm rfl rfl s1 k1 sm.ok rfl rfl rfl (by simp) (by simp) rfl rfl hKk) fun k' e1 e2 e3 => KOk_put hK1 hk1 e2 e3
  rw [drop_cons hx, semO] at he
  generalize sem N M x s.T s.V = v at *
  repeat' (first | (refine xS 14 3 ?_; refine AL.d (AOp.fr 6) ?_; refine AL.d (AOp.ll 0) ?_; refine AL.d (AOp.len rfl hlen (by kernel_rfl)) ?_; refine xN 1 ?_) | refine AW.jj (fun hb => ?_) (fun hb => ?_) | refine AW.go ?_ | fail)
  all_goals try (exfalso; simp only [dT, dF] at hb; omega)
  refine AW.frame_eq rfl (List.append_nil _).symm ?_
  repeat' (first | fail)
  refine AW.exploreA [8, 12] rfl (by kernel_rfl) (by kernel_rfl) (by kernel_rfl) (by kernel_rfl) ?_
  refine AQE.ev rfl rfl rfl rfl ?_
  refine AQE.ev rfl rfl rfl rfl ?_
  refine AQE.ev rfl rfl rfl rfl ?_
  first | refine AQE.op rfl AOp.fa rfl rfl ?_ | refine AQE.op rfl (AOp.fr 6) rfl rfl ?_
  refine AQE.pe rfl (AOp.ll 0) ?_
  refine AQE.ev rfl rfl rfl rfl ?_
  refine AQE.op rfl (iX hkx) rfl rfl ?_
  refine AQE.op rfl (AOp.la) rfl rfl ?_
  refine AQE.hole rfl rfl ?_
  first | refine AQE.op rfl AOp.fa rfl rfl ?_ | refine AQE.op rfl (AOp.fr 0) rfl rfl ?_
  refine AQE.op rfl (AOp.la) rfl rfl ?_
  refine AQE.ev rfl rfl rfl rfl ?_
  refine AQE.hole rfl rfl ?_
  refine AQE.nil ?_
  repeat' (first | refine AX.one (n := 1) 8 rfl ?_ | refine AX.one (n := 0) 12 rfl ?_ | (refine AXS.at (q := 8) rfl rfl ?_; refine AXO.callQ rfl rfl hH0 rfl ?_ ?_; rotate_left; rintro _ _ ⟨e, _⟩; cases e; rintro _ _ ⟨e, s2, n2, rfl, sm2, nb2, nf2, hK2⟩; injection e with e; subst e; dsimp only [sA, sB, sC, sD]) | (refine AXS.det (i := 12) rfl rfl rfl (AOp.bool_eq (by kernel_rfl) rfl rfl) ?_; dsimp only [sA, sB, sC, sD]) | fail)
  all_goals refine AX.done_keep [0,1,5,6,88] ?_
  refine AW.frame_eq rfl (show _ = hH bw s2 n2 from List.append_nil _) ?_
  repeat' (first | refine AW.re 17 4 ?_ | refine AW.jj (fun hb => ?_) (fun hb => ?_) | refine AW.go ?_ | fail)
  ·have hv : v = true := by simpa using hb
   exact AW.retv rfl ⟨by show _ = AEnd.ret (AV.bool (semO N M kk s.T s.V)); rw [he, hv]; rfl, s2, n2, rfl, sm.trans sm2, nb2, nf2.trans nf, hK2⟩
  ·have hv : v = false := by simpa using hb
   repeat' (first | (refine xS 15 1 ?_; refine AL.d AOp.ad ?_; refine xN 1 ?_) | fail)
   exact AW.again_keep (kk.length - (i + 1)) [0, 1, 5, 6] (by omega) ⟨i + 1, s2, n2, hlt, rfl, rfl, rfl, sm.trans sm2, nb2, nf2.trans nf, hK2, by rw [he, hv]; rfl⟩
 ·rw [List.drop_eq_nil_of_le (by omega), semO] at he
  repeat' (first | (refine xS 14 3 ?_; refine AL.d (AOp.fr 6) ?_; refine AL.d (AOp.ll 0) ?_; refine AL.d (AOp.len rfl hlen (by kernel_rfl)) ?_; refine xN 1 ?_) | refine AW.jj (fun hb => ?_) (fun hb => ?_) | refine AW.go ?_ | fail)
  all_goals try (exfalso; simp only [dT, dF] at hb; omega)
  repeat' (first | refine AW.re 18 4 ?_ | fail)
  exact AW.retv rfl ⟨by show _ = AEnd.ret (AV.bool (semO N M kk s.T s.V)); rw [he]; rfl, s1, n1, rfl, sm, rfl, nf, hK1⟩
theorem w_H6 (bw : Nat) (K Kn : NT → Prop) (φ : Nat → Bool) (n k : NT) (s : WS) (hs : s.Ok) (hkid : n.kids[0]? = some k) (hk : K k) (hKn : ∀ k', k'.b = k.b → k'.f = k.f → K k' → Kn (n.put 0 k')) (hkd : n.f.Kind = 6) (hn : s.ns.length + n.f.Vars.length ≤ 100000)
  (H : ∀ i, i < s.N ^ n.f.Vars.length → HoldsAt bw K s k n.f.Vars (tup s.N n.f.Vars.length i) (φ i)) :
  Tri Tryz.prog 155 [.ref bw 0, .ref n.b 0] (hH bw s n) (HPost bw s n Kn (.bool ((List.range (s.N ^ n.f.Vars.length)).any fun i => φ i != false)) []) := by
 have hS := kidH (Y := []) hkid (w_some bw K φ false k s n.f.Vars hs hn hk H) hKn
 obtain ⟨b, ⟨kd, ar, nm, vars, args, kk⟩, m, kids⟩ := n
 obtain rfl : kd = 6 := hkd
 have hkx : ((kids.map NT.b).map fun b => AV.ref b 0)[(0 : Int).toNat]? = some (.ref k.b 0) := by
  have h' : kids[0]? = some k := hkid
  rw [List.getElem?_map, List.getElem?_map, show (0 : Int).toNat = 0 from rfl, h']; rfl
 refine Tri.enter 134 Tryz.func155 rfl rfl rfl rfl fun Fr w0 => ?_
 repeat' (first | refine AW.re 0 1 ?_ | (refine xS 1 2 ?_; refine AL.d (AOp.fr 0) ?_; (refine AL.d (AOp.load_ref (i := 0) (v := .st [.int .i64 6, .int .i64 ar, .str nm, strs vars, strs args, .sl (kk.map GFml.av)]) rfl rfl (nbox_sub _ _ _) (by kernel_rfl)) ?_) <;> refine AL.alloc_store (by kernel_rfl) rfl rfl rfl rfl ?_ <;> refine AL.nil ?_) | (refine AW.r 2 ?_; refine AL.d AOp.fa ?_; refine AL.d AOp.la ?_; refine AL.nil ?_) | refine AW.re 3 2 ?_ | refine AW.re 5 2 ?_ | refine AW.re 7 2 ?_ | refine AW.re 9 2 ?_ | refine AW.re 11 2 ?_ | refine AW.re 12 2 ?_ | refine AW.re 19 2 ?_ | refine AW.jt ?_ | refine AW.jf ?_ | refine AW.go ?_ | fail)
 refine AW.frame_eq rfl (List.append_nil _).symm ?_
 repeat' (first | fail)
 refine AW.exploreA [9, 10] rfl (by kernel_rfl) (by kernel_rfl) (by kernel_rfl) (by kernel_rfl) ?_
 refine AQE.ev rfl rfl rfl rfl ?_
 first | refine AQE.op rfl AOp.fa rfl rfl ?_ | refine AQE.op rfl (AOp.fr 3) rfl rfl ?_
 refine AQE.op rfl (AOp.la) rfl rfl ?_
 refine AQE.ev rfl rfl rfl rfl ?_
 refine AQE.ev rfl rfl rfl rfl ?_
 first | refine AQE.op rfl AOp.fa rfl rfl ?_ | refine AQE.op rfl (AOp.fr 6) rfl rfl ?_
 refine AQE.pe rfl (AOp.ll 0) ?_
 refine AQE.op rfl (iX hkx) rfl rfl ?_
 refine AQE.op rfl (AOp.la) rfl rfl ?_
 refine AQE.hole rfl rfl ?_
 refine AQE.hole rfl rfl ?_
 refine AQE.nil ?_
 repeat' (first | refine AX.one (n := 1) 9 rfl ?_ | refine AX.one (n := 0) 10 rfl ?_ | (refine AXS.at (q := 9) rfl rfl ?_; refine AXO.callQ rfl rfl hS rfl ?_ ?_; rotate_left; rintro _ _ ⟨e, _⟩; cases e; rintro _ _ ⟨e, s2, n2, rfl, sm2, nb2, nf2, hK2⟩; injection e with e; subst e; dsimp only [sA, sB, sC, sD]) | (refine AXS.det (i := 10) rfl rfl rfl (AOp.ev rfl) ?_; dsimp only [sA, sB, sC, sD]) | fail)
 all_goals refine AX.done_keep [4] ?_
 refine AW.frame_eq rfl (show _ = hH bw s2 n2 from List.append_nil _) ?_
 repeat' (first | fail)
 exact AW.retv rfl ⟨rfl, s2, n2, rfl, sm2, nb2, nf2, hK2⟩
theorem w_H7 (bw : Nat) (K Kn : NT → Prop) (φ : Nat → Bool) (n k : NT) (s : WS) (hs : s.Ok) (hkid : n.kids[0]? = some k) (hk : K k) (hKn : ∀ k', k'.b = k.b → k'.f = k.f → K k' → Kn (n.put 0 k')) (hkd : n.f.Kind = 7) (hn : s.ns.length + n.f.Vars.length ≤ 100000)
  (H : ∀ i, i < s.N ^ n.f.Vars.length → HoldsAt bw K s k n.f.Vars (tup s.N n.f.Vars.length i) (φ i)) :
  Tri Tryz.prog 155 [.ref bw 0, .ref n.b 0] (hH bw s n) (HPost bw s n Kn (.bool (!(List.range (s.N ^ n.f.Vars.length)).any fun i => φ i != true)) []) := by
 have hS := kidH (Y := []) hkid (w_some bw K φ true k s n.f.Vars hs hn hk H) hKn
 obtain ⟨b, ⟨kd, ar, nm, vars, args, kk⟩, m, kids⟩ := n
 obtain rfl : kd = 7 := hkd
 have hkx : ((kids.map NT.b).map fun b => AV.ref b 0)[(0 : Int).toNat]? = some (.ref k.b 0) := by
  have h' : kids[0]? = some k := hkid
  rw [List.getElem?_map, List.getElem?_map, show (0 : Int).toNat = 0 from rfl, h']; rfl
 refine Tri.enter 134 Tryz.func155 rfl rfl rfl rfl fun Fr w0 => ?_
 repeat' (first | refine AW.re 0 1 ?_ | (refine xS 1 2 ?_; refine AL.d (AOp.fr 0) ?_; (refine AL.d (AOp.load_ref (i := 0) (v := .st [.int .i64 7, .int .i64 ar, .str nm, strs vars, strs args, .sl (kk.map GFml.av)]) rfl rfl (nbox_sub _ _ _) (by kernel_rfl)) ?_) <;> refine AL.alloc_store (by kernel_rfl) rfl rfl rfl rfl ?_ <;> refine AL.nil ?_) | (refine AW.r 2 ?_; refine AL.d AOp.fa ?_; refine AL.d AOp.la ?_; refine AL.nil ?_) | refine AW.re 3 2 ?_ | refine AW.re 5 2 ?_ | refine AW.re 7 2 ?_ | refine AW.re 9 2 ?_ | refine AW.re 11 2 ?_ | refine AW.re 12 2 ?_ | refine AW.re 19 2 ?_ | refine AW.re 21 2 ?_ | refine AW.jt ?_ | refine AW.jf ?_ | refine AW.go ?_ | fail)
 refine AW.frame_eq rfl (List.append_nil _).symm ?_
 repeat' (first | fail)
 refine AW.exploreA [9, 10, 11] rfl (by kernel_rfl) (by kernel_rfl) (by kernel_rfl) (by kernel_rfl) ?_
 refine AQE.ev rfl rfl rfl rfl ?_
 first | refine AQE.op rfl AOp.fa rfl rfl ?_ | refine AQE.op rfl (AOp.fr 3) rfl rfl ?_
 refine AQE.op rfl (AOp.la) rfl rfl ?_
 refine AQE.ev rfl rfl rfl rfl ?_
 refine AQE.ev rfl rfl rfl rfl ?_
 first | refine AQE.op rfl AOp.fa rfl rfl ?_ | refine AQE.op rfl (AOp.fr 6) rfl rfl ?_
 refine AQE.pe rfl (AOp.ll 0) ?_
 refine AQE.op rfl (iX hkx) rfl rfl ?_
 refine AQE.op rfl (AOp.la) rfl rfl ?_
 refine AQE.hole rfl rfl ?_
 refine AQE.hole rfl rfl ?_
 refine AQE.hole rfl rfl ?_
 refine AQE.nil ?_
 repeat' (first | refine AX.one (n := 2) 9 rfl ?_ | refine AX.one (n := 1) 10 rfl ?_ | refine AX.one (n := 0) 11 rfl ?_ | (refine AXS.at (q := 9) rfl rfl ?_; refine AXO.callQ rfl rfl hS rfl ?_ ?_; rotate_left; rintro _ _ ⟨e, _⟩; cases e; rintro _ _ ⟨e, s2, n2, rfl, sm2, nb2, nf2, hK2⟩; injection e with e; subst e; dsimp only [sA, sB, sC, sD]) | (refine AXS.det (i := 10) rfl rfl rfl (AOp.ev rfl) ?_; dsimp only [sA, sB, sC, sD]) | (refine AXS.det (i := 11) rfl rfl rfl (AOp.ev rfl) ?_; dsimp only [sA, sB, sC, sD]) | fail)
 all_goals refine AX.done_keep [4] ?_
 refine AW.frame_eq rfl (show _ = hH bw s2 n2 from List.append_nil _) ?_
 repeat' (first | fail)
 exact AW.retv rfl ⟨rfl, s2, n2, rfl, sm2, nb2, nf2, hK2⟩
theorem w_H8 (bw : Nat) (Kn : NT → Prop) (v : Bool) (n : NT) (s : WS) (hkd : n.f.Kind = 8) (hC : Tri Tryz.prog 179 [.ref bw 0, .ref n.b 0] (hH bw s n) (HPost bw s n Kn (.bool v) [])) :
  Tri Tryz.prog 155 [.ref bw 0, .ref n.b 0] (hH bw s n) (HPost bw s n Kn (.bool v) []) := by
 obtain ⟨b, ⟨kd, ar, nm, vars, args, kk⟩, m, kids⟩ := n
 obtain rfl : kd = 8 := hkd
 refine Tri.enter 134 Tryz.func155 rfl rfl rfl rfl fun Fr w0 => ?_
 repeat' (first | refine AW.re 0 1 ?_ | (refine xS 1 2 ?_; refine AL.d (AOp.fr 0) ?_; (refine AL.d (AOp.load_ref (i := 0) (v := .st [.int .i64 8, .int .i64 ar, .str nm, strs vars, strs args, .sl (kk.map GFml.av)]) rfl rfl (nbox_sub _ _ _) (by kernel_rfl)) ?_) <;> refine AL.alloc_store (by kernel_rfl) rfl rfl rfl rfl ?_ <;> refine AL.nil ?_) | (refine AW.r 2 ?_; refine AL.d AOp.fa ?_; refine AL.d AOp.la ?_; refine AL.nil ?_) | refine AW.re 3 2 ?_ | refine AW.re 5 2 ?_ | refine AW.re 7 2 ?_ | refine AW.re 9 2 ?_ | refine AW.re 11 2 ?_ | refine AW.re 12 2 ?_ | refine AW.re 19 2 ?_ | refine AW.re 21 2 ?_ | refine AW.re 23 2 ?_ | (refine xS 25 2 ?_; (refine AL.callQ rfl rfl hC rfl ?_ ?_; rotate_left; rintro _ _ ⟨e, _⟩; cases e; rintro _ _ ⟨e, s2, n2, rfl, sm2, nb2, nf2, hK2⟩; injection e with e; subst e) <;> refine AL.es 1 ?_ <;> refine AL.nil ?_) | refine AW.jt ?_ | refine AW.jf ?_ | fail)
 exact AW.retv rfl ⟨rfl, s2, n2, rfl, sm2, nb2, nf2, hK2⟩
theorem w_H9 (bw : Nat) (Kn : NT → Prop) (v : Bool) (n : NT) (s : WS) (hkd : n.f.Kind = 9) (hC : Tri Tryz.prog 179 [.ref bw 0, .ref n.b 0] (hH bw s n) (HPost bw s n Kn (.bool v) [])) :
  Tri Tryz.prog 155 [.ref bw 0, .ref n.b 0] (hH bw s n) (HPost bw s n Kn (.bool v) []) := by
 obtain ⟨b, ⟨kd, ar, nm, vars, args, kk⟩, m, kids⟩ := n
 obtain rfl : kd = 9 := hkd
 refine Tri.enter 134 Tryz.func155 rfl rfl rfl rfl fun Fr w0 => ?_
 repeat' (first | refine AW.re 0 1 ?_ | (refine xS 1 2 ?_; refine AL.d (AOp.fr 0) ?_; (refine AL.d (AOp.load_ref (i := 0) (v := .st [.int .i64 9, .int .i64 ar, .str nm, strs vars, strs args, .sl (kk.map GFml.av)]) rfl rfl (nbox_sub _ _ _) (by kernel_rfl)) ?_) <;> refine AL.alloc_store (by kernel_rfl) rfl rfl rfl rfl ?_ <;> refine AL.nil ?_) | (refine AW.r 2 ?_; refine AL.d AOp.fa ?_; refine AL.d AOp.la ?_; refine AL.nil ?_) | refine AW.re 3 2 ?_ | refine AW.re 5 2 ?_ | refine AW.re 7 2 ?_ | refine AW.re 9 2 ?_ | refine AW.re 11 2 ?_ | refine AW.re 12 2 ?_ | refine AW.re 19 2 ?_ | refine AW.re 21 2 ?_ | refine AW.re 23 2 ?_ | refine AW.re 24 2 ?_ | (refine xS 25 2 ?_; (refine AL.callQ rfl rfl hC rfl ?_ ?_; rotate_left; rintro _ _ ⟨e, _⟩; cases e; rintro _ _ ⟨e, s2, n2, rfl, sm2, nb2, nf2, hK2⟩; injection e with e; subst e) <;> refine AL.es 1 ?_ <;> refine AL.nil ?_) | refine AW.jt ?_ | refine AW.jf ?_ | fail)
 exact AW.retv rfl ⟨rfl, s2, n2, rfl, sm2, nb2, nf2, hK2⟩
theorem w_H10 (bw : Nat) (Kn : NT → Prop) (v : Bool) (n : NT) (s : WS) (hkd : n.f.Kind = 10) (hC : Tri Tryz.prog 180 [.ref bw 0, .ref n.b 0] (hH bw s n) (HPost bw s n Kn (.bool v) [])) :
  Tri Tryz.prog 155 [.ref bw 0, .ref n.b 0] (hH bw s n) (HPost bw s n Kn (.bool v) []) := by
 obtain ⟨b, ⟨kd, ar, nm, vars, args, kk⟩, m, kids⟩ := n
 obtain rfl : kd = 10 := hkd
 refine Tri.enter 134 Tryz.func155 rfl rfl rfl rfl fun Fr w0 => ?_
 repeat' (first | refine AW.re 0 1 ?_ | (refine xS 1 2 ?_; refine AL.d (AOp.fr 0) ?_; (refine AL.d (AOp.load_ref (i := 0) (v := .st [.int .i64 10, .int .i64 ar, .str nm, strs vars, strs args, .sl (kk.map GFml.av)]) rfl rfl (nbox_sub _ _ _) (by kernel_rfl)) ?_) <;> refine AL.alloc_store (by kernel_rfl) rfl rfl rfl rfl ?_ <;> refine AL.nil ?_) | (refine AW.r 2 ?_; refine AL.d AOp.fa ?_; refine AL.d AOp.la ?_; refine AL.nil ?_) | refine AW.re 3 2 ?_ | refine AW.re 5 2 ?_ | refine AW.re 7 2 ?_ | refine AW.re 9 2 ?_ | refine AW.re 11 2 ?_ | refine AW.re 12 2 ?_ | refine AW.re 19 2 ?_ | refine AW.re 21 2 ?_ | refine AW.re 23 2 ?_ | refine AW.re 24 2 ?_ | refine AW.re 26 2 ?_ | (refine xS 27 2 ?_; (refine AL.callQ rfl rfl hC rfl ?_ ?_; rotate_left; rintro _ _ ⟨e, _⟩; cases e; rintro _ _ ⟨e, s2, n2, rfl, sm2, nb2, nf2, hK2⟩; injection e with e; subst e) <;> refine AL.es 1 ?_ <;> refine AL.nil ?_) | refine AW.jt ?_ | refine AW.jf ?_ | fail)
 exact AW.retv rfl ⟨rfl, s2, n2, rfl, sm2, nb2, nf2, hK2⟩
theorem w_H11 (bw : Nat) (Kn : NT → Prop) (v : Bool) (n : NT) (s : WS) (hkd : n.f.Kind = 11) (hC : Tri Tryz.prog 181 [.ref bw 0, .ref n.b 0] (hH bw s n) (HPost bw s n Kn (.bool v) [])) :
  Tri Tryz.prog 155 [.ref bw 0, .ref n.b 0] (hH bw s n) (HPost bw s n Kn (.bool v) []) := by
 obtain ⟨b, ⟨kd, ar, nm, vars, args, kk⟩, m, kids⟩ := n
 obtain rfl : kd = 11 := hkd
 refine Tri.enter 134 Tryz.func155 rfl rfl rfl rfl fun Fr w0 => ?_
 repeat' (first | refine AW.re 0 1 ?_ | (refine xS 1 2 ?_; refine AL.d (AOp.fr 0) ?_; (refine AL.d (AOp.load_ref (i := 0) (v := .st [.int .i64 11, .int .i64 ar, .str nm, strs vars, strs args, .sl (kk.map GFml.av)]) rfl rfl (nbox_sub _ _ _) (by kernel_rfl)) ?_) <;> refine AL.alloc_store (by kernel_rfl) rfl rfl rfl rfl ?_ <;> refine AL.nil ?_) | (refine AW.r 2 ?_; refine AL.d AOp.fa ?_; refine AL.d AOp.la ?_; refine AL.nil ?_) | refine AW.re 3 2 ?_ | refine AW.re 5 2 ?_ | refine AW.re 7 2 ?_ | refine AW.re 9 2 ?_ | refine AW.re 11 2 ?_ | refine AW.re 12 2 ?_ | refine AW.re 19 2 ?_ | refine AW.re 21 2 ?_ | refine AW.re 23 2 ?_ | refine AW.re 24 2 ?_ | refine AW.re 26 2 ?_ | (refine xS 28 2 ?_; (refine AL.callQ rfl rfl hC rfl ?_ ?_; rotate_left; rintro _ _ ⟨e, _⟩; cases e; rintro _ _ ⟨e, s2, n2, rfl, sm2, nb2, nf2, hK2⟩; injection e with e; subst e) <;> refine AL.es 1 ?_ <;> refine AL.nil ?_) | refine AW.jf ?_ | fail)
 exact AW.retv rfl ⟨rfl, s2, n2, rfl, sm2, nb2, nf2, hK2⟩
theorem WS.V_app {s s' : WS} {names : List ByteArray} {t : List Int} (hs : s.Ok) (h1 : s'.ns = s.ns ++ names) (h2 : s'.vs = s.vs ++ t) : s'.V = s.V ++ names.zip t := by
 unfold WS.V
 rw [h1, h2, List.zip_append hs.v3.symm]
theorem WS.T_app {s s' : WS} {now : TE} (h1 : s'.ts = s.ts ++ [now]) : s'.T = s.T ++ [(now.nm, now.bits)] := by
 unfold WS.T; rw [h1, List.map_append]; rfl
structure HC (N : Nat) (T0 : TT) (s : WS) (f : GFml) : Prop where
 ok : s.Ok
 eN : s.N = N
 b1 : s.base ≤ s.ts.length
 t0 : s.T.take s.base = T0
 okf : okF N f (tl s.T)
 n1 : s.ns.length + 24 * ndF f ≤ 100000
 t1 : s.ts.length + ndF f ≤ 10000
theorem okF_kids {N : Nat} {f : GFml} {L : LT} (h : okF N f L) (h0 : f.Kind ≠ 0) (h8 : ¬ (f.Kind = 8 ∨ f.Kind = 9)) (h11 : f.Kind ≠ 11) : okFL N f.Kids L := by
 rw [okF_eq] at h
 have := h.2.2.2.2 h0
 rwa [if_neg h8, if_neg h11] at this
theorem grF_kids {f : GFml} (h : grF f = true) : grFs f.Kids = true := by
 cases f; rw [grF, bA] at h; exact h.2
theorem grFs_mem {l : List GFml} {x : GFml} (h : grFs l = true) (hx : x ∈ l) : grF x = true := by
 induction l with
 | nil => cases hx
 | cons y l ih =>
  rw [grFs, bA] at h
  rcases List.mem_cons.1 hx with rfl | hx
  ·exact h.1
  ·exact ih h.2 hx
theorem grF_pos {f x : GFml} (h : grF f = true) (h8 : f.Kind = 8) (hk : f.Kids = [x]) : posF f.Name x false false = true := by
 obtain ⟨k, ar, nm, vars, args, kids⟩ := f
 simp only at h8 hk
 subst h8 hk
 rw [grF] at h
 rw [bA] at h
 have h1 := h.1
 simpa [posH] using h1
theorem lfp_SM {N M : Nat} {f x : GFml} {T : TT} {V : VV} (hsh : shsF f = true) (hg : grF f = true) (h8 : f.Kind = 8) (hk : f.Kids = [x]) : SM (stg N M f T V) := by
 intro X Y h
 have hshx : shsF x = true := by have := shsF_kids hsh; rw [hk, shsFs, shsFs] at this; simpa using this
 unfold stg
 refine LB_map fun i hi => ?_
 rw [hk, semH_one] at hi ⊢
 exact (sem_mono N M x f.Name false _ _ _ hshx (grFs_mem (grF_kids hg) (by rw [hk]; simp)) (grF_pos hg h8 hk) (TLe.self T h)).1 rfl hi
theorem emp_env {N M : Nat} {x : GFml} (hs : shsF x = true) (T : TT) (X : List Bool) (V : VV) : sem N M x (T ++ [(empB, X)]) V = sem N M x T V := by
 refine sem_env N M x _ _ _ _ hs (fun s h => ?_) (fun s h => rfl)
 rw [lkT_snoc, if_neg fun e => ?_]
 have := ocs_name s x hs h
 rw [← e, nameB_emp] at this; cases this
theorem emp_ok {N : Nat} {x : GFml} (hs : shsF x = true) (L : LT) (c : Nat) (h : okF N x L) : okF N x (L ++ [(empB, c)]) := by
 refine okF_env N x L _ (fun s h => ?_) h
 rw [lkT_snoc, if_neg fun e => ?_]
 have := ocs_name s x hs h
 rw [← e, nameB_emp] at this; cases this
theorem kids1 {f : GFml} (h : shapedP f = true) (h8 : f.Kind = 6 ∨ f.Kind = 7 ∨ f.Kind = 8 ∨ f.Kind = 9 ∨ f.Kind = 10 ∨ f.Kind = 11 ∨ f.Kind = 3) : ∃ x, f.Kids = [x] := by
 have hk := shaped_q1 h h8
 match hkk : f.Kids, hk with
 | [x], _ => exact ⟨x, rfl⟩
theorem shaped_args0 {f : GFml} (h : shapedP f = true) (h8 : f.Kind = 0) : f.Args.length ≤ 24 := by
 simp only [shapedP, shp3, bA, dT] at h
 have h2 := h.2.1.1.1.2
 rw [h8] at h2
 simp [rulesP] at h2
 omega
theorem shaped_ar {f : GFml} (h : shapedP f = true) : 0 ≤ f.Arity ∧ f.Arity ≤ 12 := by
 simp only [shapedP, shp2, bA, dT] at h
 exact ⟨h.1.2.1.1.2, h.1.2.1.2⟩
theorem w_Holds (bw N M : Nat) (T0 : TT) (hM : 5001 < M) : ∀ (D : Nat) (f : GFml) (n : NT) (s : WS), ndF f ≤ D → n.f = f → HC N T0 s f → f.Ok → shsF f = true → grF f = true → KOk N M T0 n →
  Tri Tryz.prog 155 [.ref bw 0, .ref n.b 0] (hH bw s n) (HPost bw s n (KOk N M T0) (.bool (sem N M f s.T s.V)) []) := by
 intro D
 induction D with
 | zero => intro f n s hD; have := ndF_eq f; omega
 | succ D ih =>
  intro f n s hD hnf hC ho hsh hg hK
  subst hnf
  obtain ⟨hok, hN, hb1, ht0, hokf, hn1, ht1⟩ := hC
  subst hN
  have hsp : shapedP n.f = true := by rw [shsF_eq, bA] at hsh; exact hsh.2
  have hnd := ndF_eq n.f
  obtain ⟨hko⟩ := ho
  rename_i hko1 hko2
  have hkx : ∀ x ∈ n.f.Kids, x.Ok ∧ shsF x = true ∧ grF x = true ∧ ndF x ≤ D ∧ ndF x + 1 ≤ ndF n.f := fun x hx => by
   have := ndFs_mem hx
   exact ⟨hko2 x hx, shsFs_mem (shsF_kids hsh) hx, grFs_mem (grF_kids hg) hx, by omega, by omega⟩
  have hAt : ∀ x ∈ n.f.Kids, ∀ k' : NT, k'.f = x → ∀ (names : List ByteArray) (t : List Int), t.length = names.length → names.length ≤ 24 → okF s.N x (tl s.T) → HoldsAt bw (KOk s.N M T0) s k' names t (sem s.N M x s.T (s.V ++ names.zip t)) := by
   intro x hx k' hkf names t hl hl2 hokx s' n' h1 h2 h3 h4 h5 h6 h7 h8 h9
   obtain ⟨q1, q2, q3, q4, q5⟩ := hkx x hx
   have hT : s'.T = s.T := by unfold WS.T; rw [h4]
   have := ih x n' s' q4 (h8.trans hkf) ⟨h1, h2, by rw [h3, h4]; exact hb1, by rw [hT, h3]; exact ht0, by rw [hT]; exact hokx, by rw [h5, lA]; omega, by rw [h4]; omega⟩ q1 q2 q3 h9
   rwa [hT, WS.V_app hok h5 h6] at this
  have hAtP : ∀ x ∈ n.f.Kids, ∀ k' : NT, k'.f = x → ∀ (now : TE) (names : List ByteArray) (t : List Int), t.length = names.length → names.length ≤ 24 → okF s.N x (tl s.T ++ [(now.nm, now.bits.length)]) → HoldsAt bw (KOk s.N M T0) (s.push none 0 [] now) k' names t (sem s.N M x (s.T ++ [(now.nm, now.bits)]) (s.V ++ names.zip t)) := by
   intro x hx k' hkf now names t hl hl2 hokx s' n' h1 h2 h3 h4 h5 h6 h7 h8 h9
   obtain ⟨q1, q2, q3, q4, q5⟩ := hkx x hx
   have h4' : s'.ts = s.ts ++ [now] := h4
   have h5' : s'.ns = s.ns ++ names := h5
   have h6' : s'.vs = s.vs ++ t := h6
   have h3' : s'.base = s.base := h3
   have hT : s'.T = s.T ++ [(now.nm, now.bits)] := WS.T_app h4'
   have hTl : s.T.length = s.ts.length := by unfold WS.T; rw [lM]
   have := ih x n' s' q4 (h8.trans hkf) ⟨h1, h2, by rw [h3', h4', lA]; omega, by rw [hT, h3', List.take_append_of_le_length (by omega)]; exact ht0, by rw [hT, tl_push]; exact hokx, by rw [h5', lA]; omega, by rw [h4', lA, List.length_singleton]; omega⟩ q1 q2 q3 h9
   rwa [hT, WS.V_app hok h5' h6'] at this
  rcases (by have := kind_bd hsp; omega : n.f.Kind = 0 ∨ n.f.Kind = 1 ∨ n.f.Kind = 2 ∨ n.f.Kind = 3 ∨ n.f.Kind = 4 ∨ n.f.Kind = 5 ∨ n.f.Kind = 6 ∨ n.f.Kind = 7 ∨ n.f.Kind = 8 ∨ n.f.Kind = 9 ∨ n.f.Kind = 10 ∨ n.f.Kind = 11) with e | e | e | e | e | e | e | e | e | e | e | e
  ·have hal : n.f.Args.length ≤ 24 := shaped_args0 hsp e
   exact w_H0 bw M _ n s hok hK e hal (by rw [okF_eq] at hokf; exact hokf.1 e)
  ·exact w_H1 bw M _ n s hok hK e (shaped_eq2 hsp (.inl e))
  ·exact w_H2 bw M _ n s hok hK e (shaped_eq2 hsp (.inr e))
  ·obtain ⟨x, hx⟩ := kids1 hsp (by simp [e])
   obtain ⟨k, hk1, hkf, hKk⟩ := KOk_kid hK (i := 0) (x := x) (by rw [hx]; rfl)
   have hokx := okFL_mem (okF_kids hokf (by omega) (by omega) (by omega)) x (by rw [hx]; simp)
   have hA := hAt x (by rw [hx]; simp) k hkf [] [] rfl (by simp) hokx
   rw [sem_3 _ _ _ _ _ e, hx, semH_one]
   simp only [List.zip_nil_left, List.append_nil] at hA
   exact w_H3 bw M (KOk s.N M T0) (KOk s.N M T0) n k s _ hok hk1 hKk (fun k' e1 e2 e3 => KOk_put hK hk1 e2 e3) e hA
  ·have hokL := okF_kids hokf (by omega) (by omega) (by omega)
   rw [sem_4 _ _ _ _ _ e]
   refine w_H4 bw s.N M T0 n s hok e (by have := ndFs_len n.f.Kids; omega) hK fun i x hx k' hkf => ?_
   have hA := hAt x (lG hx) k' hkf [] [] rfl (by simp) (okFL_mem hokL x (lG hx))
   simpa using hA
  ·have hokL := okF_kids hokf (by omega) (by omega) (by omega)
   rw [sem_5 _ _ _ _ _ e]
   refine w_H5 bw s.N M T0 n s hok e (by have := ndFs_len n.f.Kids; omega) hK fun i x hx k' hkf => ?_
   have hA := hAt x (lG hx) k' hkf [] [] rfl (by simp) (okFL_mem hokL x (lG hx))
   simpa using hA
  ·obtain ⟨x, hx⟩ := kids1 hsp (by simp [e])
   obtain ⟨k, hk1, hkf, hKk⟩ := KOk_kid hK (i := 0) (x := x) (by rw [hx]; rfl)
   have hokx := okFL_mem (okF_kids hokf (by omega) (by omega) (by omega)) x (by rw [hx]; simp)
   have hvl := shaped_vars hsp
   have := w_H6 bw (KOk s.N M T0) (KOk s.N M T0) (fun i => sem s.N M x s.T (s.V ++ n.f.Vars.zip (tup s.N n.f.Vars.length i))) n k s hok hk1 hKk (fun k' e1 e2 e3 => KOk_put hK hk1 e2 e3) e (by omega)
    (fun i _ => hAt x (by rw [hx]; simp) k hkf n.f.Vars _ (tup_len _ _ _) hvl hokx)
   rw [sem_6 _ _ _ _ _ e, hx]
   simpa [semH_one] using this
  ·obtain ⟨x, hx⟩ := kids1 hsp (by simp [e])
   obtain ⟨k, hk1, hkf, hKk⟩ := KOk_kid hK (i := 0) (x := x) (by rw [hx]; rfl)
   have hokx := okFL_mem (okF_kids hokf (by omega) (by omega) (by omega)) x (by rw [hx]; simp)
   have hvl := shaped_vars hsp
   have := w_H7 bw (KOk s.N M T0) (KOk s.N M T0) (fun i => sem s.N M x s.T (s.V ++ n.f.Vars.zip (tup s.N n.f.Vars.length i))) n k s hok hk1 hKk (fun k' e1 e2 e3 => KOk_put hK hk1 e2 e3) e (by omega)
    (fun i _ => hAt x (by rw [hx]; simp) k hkf n.f.Vars _ (tup_len _ _ _) hvl hokx)
   rw [sem_7 _ _ _ _ _ e, hx]
   simpa [semH_one] using this
  ·obtain ⟨x, hx⟩ := kids1 hsp (by simp [e])
   obtain ⟨k, hk1, hkf, hKk⟩ := KOk_kid hK (i := 0) (x := x) (by rw [hx]; rfl)
   have hkd : n.f.Kind = 8 ∨ n.f.Kind = 9 := by omega
   have hok8 := hokf
   rw [okF_eq] at hok8
   have hp := hok8.2.1 hkd
   have hokL := hok8.2.2.2.2 (by omega)
   rw [if_pos hkd] at hokL
   have hvl := shaped_vars hsp
   refine w_H8 bw (KOk s.N M T0) _ n s e (w_fixed bw s.N M T0 n k s x hk1 hx rfl ht0 hb1 hp hkd hM hok (hkx x (by rw [hx]; simp)).1 (by have := hkx x (by rw [hx]; simp); omega) hsh (by omega) (by omega) hK (fun h8 => lfp_SM hsh hg h8 hx) fun now h1 h2 i _ => ?_)
   have := hAtP x (by rw [hx]; simp) k hkf now n.f.Vars (tup s.N n.f.Vars.length i) (tup_len _ _ _) hvl (by rw [h1, h2]; exact okFL_mem hokL x (by rw [hx]; simp))
   rw [h1] at this
   rw [hx, semH_one]
   exact this
  ·obtain ⟨x, hx⟩ := kids1 hsp (by simp [e])
   obtain ⟨k, hk1, hkf, hKk⟩ := KOk_kid hK (i := 0) (x := x) (by rw [hx]; rfl)
   have hkd : n.f.Kind = 8 ∨ n.f.Kind = 9 := by omega
   have hok8 := hokf
   rw [okF_eq] at hok8
   have hp := hok8.2.1 hkd
   have hokL := hok8.2.2.2.2 (by omega)
   rw [if_pos hkd] at hokL
   have hvl := shaped_vars hsp
   refine w_H9 bw (KOk s.N M T0) _ n s e (w_fixed bw s.N M T0 n k s x hk1 hx rfl ht0 hb1 hp hkd hM hok (hkx x (by rw [hx]; simp)).1 (by have := hkx x (by rw [hx]; simp); omega) hsh (by omega) (by omega) hK (fun h8 => lfp_SM hsh hg h8 hx) fun now h1 h2 i _ => ?_)
   have := hAtP x (by rw [hx]; simp) k hkf now n.f.Vars (tup s.N n.f.Vars.length i) (tup_len _ _ _) hvl (by rw [h1, h2]; exact okFL_mem hokL x (by rw [hx]; simp))
   rw [h1] at this
   rw [hx, semH_one]
   exact this
  ·obtain ⟨x, hx⟩ := kids1 hsp (by simp [e])
   have hokx := okFL_mem (okF_kids hokf (by omega) (by omega) (by omega)) x (by rw [hx]; simp)
   have hok10 := hokf
   rw [okF_eq] at hok10
   have hvl := shaped_vars hsp
   obtain ⟨q1, q2, q3, q4, q5⟩ := hkx x (by rw [hx]; simp)
   have hN1 : ∃ k, n.kids = [k] := by
    have := hK
    rw [KOk_eq] at this
    have := congrArg List.length this.2.1
    rw [lM, hx] at this
    match hk : n.kids, this with
    | [k], _ => exact ⟨k, rfl⟩
   obtain ⟨k, hkk⟩ := hN1
   have hkf : k.f = x := by
    have := hK
    rw [KOk_eq] at this
    have := this.2.1
    rw [hkk, hx] at this
    simpa using this
   have hne : n = .mk n.b n.f n.m [k] := by
    cases n with
    | mk b f m kids => show NT.mk b f m kids = NT.mk b f m [k]; rw [show kids = [k] from hkk]
   refine w_H10 bw (KOk s.N M T0) _ n s e ?_
   have hcn := w_connected bw M T0 n.b n.m k s n.f x hx ht0 hb1 (hok10.2.2.1 e) e hok q1 (by omega) hsh (by omega) (by omega) (by rw [← hne]; exact hK)
    (fun t h1 _ => by rw [hx, semH_one]; exact hAt x (by rw [hx]; simp) k hkf n.f.Vars t h1 hvl hokx)
    (fun now h0 t h1 _ => by
     have := hAtP x (by rw [hx]; simp) k hkf now n.f.Vars t h1 hvl (by rw [h0]; exact emp_ok q2 _ _ hokx)
     rw [h0, emp_env q2] at this
     rw [hx, semH_one]; exact this)
   rw [← hne] at hcn
   exact hcn
  ·obtain ⟨x, hx⟩ := kids1 hsp (by simp [e])
   obtain ⟨k, hk1, hkf, hKk⟩ := KOk_kid hK (i := 0) (x := x) (by rw [hx]; rfl)
   have hok11 := hokf
   rw [okF_eq] at hok11
   have hp := hok11.2.2.2.1 e
   have hokL := hok11.2.2.2.2 (by omega)
   rw [if_neg (by omega), if_pos e] at hokL
   have har := shaped_ar hsp
   rw [sem_sec _ _ _ _ _ e]
   refine w_H11 bw (KOk s.N M T0) _ n s e (w_guessed bw s.N M n k s (KOk s.N M T0) (KOk s.N M T0) (fun X => semH s.N M n.f.Kids (s.T ++ [(n.f.Name, X)]) s.V) _ hk1 rfl (by omega) (by omega) rfl hp hok (by omega) (by omega) hKk (fun k' e1 e2 e3 => KOk_put hK hk1 e2 e3) fun now h1 h2 => ?_)
   have := hAtP x (by rw [hx]; simp) k hkf now [] [] rfl (by simp) (by rw [h1, h2]; exact okFL_mem hokL x (by rw [hx]; simp))
   rw [h1] at this
   rw [hx, semH_one]
   simpa using this
theorem APan.perm {C : Cx} {ds : List Deferred} {v : AV} {a b : AH} (hp : a.Perm b) (h : APan C ds v b) : APan C ds v a := .mk fun ac w u g hu =>
 h.out ac w u { g with st := g.st.perm hp, old := fun x o hb hr => g.old x o hb ((reg_perm hp).2 hr), fr := by rw [← Sof_perm hp]; exact g.fr } (by rw [← Sof_perm hp]; exact hu)
theorem ax2_perm {N : List Nat} {C : Cx} {ds : List Deferred} {ks : List K} {ops : Array Oper} {af : AF} {aq : AH} : ∀ (n : Nat) (rem : List Nat) (vs : List AV) (ae ae' : AH), ae.Perm ae' → AX2 N C ds ks ops af aq n rem vs ae' → AX2 N C ds ks ops af aq n rem vs ae
 | 0, rem, vs, ae, ae', hp, h => AW.perm (hp.append_right aq) h
 | n + 1, rem, vs, ae, ae', hp, h => by
  intro i hi hf
  obtain ⟨o, ho, h1⟩ := h i hi hf
  refine ⟨o, ho, ?_⟩
  rcases h1 with ⟨hg, hk⟩ | ⟨hg, Φ, hop, hret, hpan⟩
  ·exact .inl ⟨hg, ax2_perm n _ _ _ _ hp hk⟩
  ·refine .inr ⟨hg, fun x b => ∃ a, Φ x a ∧ b.Perm a ∧ (memN i N = true → ∀ v, x = .ret v → ∃ A, b = A ++ ae), (hop.perm hp.symm).reperm fun x a hΦ => ?_, fun v b hb => ?_, fun v b hb => ?_⟩
   ·cases hN : memN i N with
    | false => exact ⟨a, ⟨a, hΦ, List.Perm.refl _, fun e => by cases e⟩, List.Perm.refl _⟩
    | true =>
     cases x with
     | ret v =>
      obtain ⟨A, rfl⟩ := (hret v a hΦ).2 hN
      exact ⟨A ++ ae, ⟨_, hΦ, hp.append_left A, fun _ v _ => ⟨A, rfl⟩⟩, hp.symm.append_left A⟩
     | pan v => exact ⟨a, ⟨a, hΦ, List.Perm.refl _, fun _ v e => by cases e⟩, List.Perm.refl _⟩
   ·obtain ⟨a, hΦ, hba, hb2⟩ := hb
    exact ⟨ax2_perm n _ _ _ _ hba (hret v a hΦ).1, fun e => hb2 e v rfl⟩
   ·obtain ⟨a, hΦ, hba, hb2⟩ := hb
    exact Go.Proofs.YtlpndgodkkndnaaGreatDoor.APan.perm (hba.append_right aq) (hpan v a hΦ)
def NewT (n : NT) : Prop := ∀ N M T0, KOk N M T0 n
theorem KOkL_of {N M : Nat} {T0 : TT} : ∀ {l : List NT}, (∀ x ∈ l, KOk N M T0 x) → KOkL N M T0 l
 | [], _ => by rw [KOkL]; trivial
 | x :: l, h => by rw [KOkL]; exact ⟨h x (by simp), KOkL_of fun y hy => h y (List.mem_cons_of_mem _ hy)⟩
def nrf (k : NT) : AV := .ref k.b 0
theorem ref_Tree : ∀ (D : Nat) (f : GFml), ndF f ≤ D → f.Ok → ndF f ≤ 100000 → Tri Tryz.prog 117 [f.st] [] (fun r h => ∃ n : NT, r = .ret (.ref n.b 0) ∧ h = nown n ∧ n.f = f ∧ NewT n) := by
 intro D
 induction D with
 | zero => intro f hD; have := ndF_eq f; omega
 | succ D ih =>
  intro f hD hok hnd
  have hok' := hok
  obtain ⟨hko⟩ := hok
  rename_i hko1 hko2
  have hnd' := ndF_eq f
  have hks : ∀ x ∈ f.Kids, x.Ok ∧ ndF x ≤ D ∧ ndF x ≤ 100000 := fun x hx => by
   have h1 := ndFs_mem hx
   exact ⟨hko2 x hx, by omega, by omega⟩
  have hkl := ndFs_len f.Kids
  obtain ⟨k, ar, nm, vars, args, fk⟩ := f
  simp only [] at hks hkl hnd'
  refine Tri.enter 31 Tryz.func117 rfl rfl rfl rfl fun Fr w0 => ?_
  repeat' (first | (refine AW.r 0 ?_; refine AL.d (AOp.box_ro rfl rfl) ?_; refine xN 1 ?_) | refine AW.go ?_ | fail)
  repeat' (first | (refine xS 1 1 ?_; (refine AL.d (AOp.build (pl := [(0, 6), (6, 1), (7, 1), (8, 1), (9, 1), (10, 1), (11, 1), (12, 3)]) (z := .st [zF, nilS, .bool false, .bool false, .bool false, .bool false, nilS, zTab]) (by kernel_rfl) rfl rfl rfl) ?_) <;> refine AL.box rfl rfl rfl fun bw => ?_ <;> refine AL.es 1 ?_ <;> refine AL.nil ?_) | refine AW.go ?_ | fail)
  refine AW.recast 0 (c' := .st [(⟨k, ar, nm, vars, args, fk⟩ : GFml).st, .slt [] none 0, .bool false, .bool false, .bool false, .bool false, .slt [] none 0, zTab]) rfl (fun S w cs h => relc_set 6 _ rfl (fun cs h => nil_slt _ _ _ h) (relc_set 1 _ rfl (fun cs h => nil_slt _ _ _ h) h)) ?_
  refine AW.own_nil 1 ?_
  repeat' (first | refine AW.re 2 1 ?_ | refine AW.go ?_ | fail)
  refine AW.prune [1, 3, 4] (AW.loop (fun mz af h => ∃ (i : Nat) (ns : List NT) (tb : Option Nat) (tc : Nat), i ≤ fk.length ∧ mz = fk.length - i ∧ af = [(1, .at (⟨k, ar, nm, vars, args, fk⟩ : GFml).st), (3, .ref bw 0), (4, .int .i64 i)] ∧ h = [.tail tb (ns.map nrf).length tc 1, .box bw (.st [(⟨k, ar, nm, vars, args, fk⟩ : GFml).st, .slt (ns.map nrf) tb tc, .bool false, .bool false, .bool false, .bool false, .slt [] none 0, zTab])] ++ nownL ns ∧ (ns.map NT.f = fk.take i ∧ (∀ x ∈ ns, NewT x))) fk.length ⟨0, [], none, 0, Nat.zero_le _, rfl, rfl, rfl, ⟨rfl, fun _ h => by cases h⟩⟩ ?_)
  rintro mz af h ⟨i, ns, tb, tc, hi, rfl, rfl, rfl, he⟩
  refine AW.seq ?_
  by_cases hlt : i < fk.length
  all_goals obtain ⟨hns, hnew⟩ := he
  ·obtain ⟨x, hx⟩ := get_lt hlt
   have hx' : (fk.map GFml.av)[((i : Nat) : Int).toNat]? = some x.st := by rw [← GFml.av_eq]; exact map_get hx
   obtain ⟨q1, q2, q3⟩ := hks x (lG hx)
   have hT := ih x q2 q1 q3
   have hnl : ns.length ≤ 100000 := by have := congrArg List.length hns; simp at this; omega
   repeat' (first | (refine xS 3 1 ?_; refine AL.d AOp.fa ?_; refine AL.d AOp.la ?_; refine xN 2 ?_) | refine AW.jj (fun hb => ?_) (fun hb => ?_) | refine AW.go ?_ | fail)
   all_goals try (exfalso; simp only [dT, dF, lM] at *; omega)
   repeat' (first | fail)
   refine AW.explore2 [10,11] [10, 11, 12, 15] rfl (by kernel_rfl) (by kernel_rfl) (by kernel_rfl) (by kernel_rfl) ?_
   refine AQ2.ev rfl rfl rfl rfl ?_
   refine AQ2.ev rfl rfl rfl rfl ?_
   refine AQ2.ev rfl rfl rfl rfl ?_
   first | refine AQ2.op rfl AOp.fa rfl rfl ?_ | refine AQ2.op rfl (AOp.fr 6) rfl rfl ?_
   refine AQ2.pe rfl (AOp.ll 1) ?_
   first | refine AQ2.op rfl AOp.fa rfl rfl ?_ | refine AQ2.op rfl (AOp.fr 5) rfl rfl ?_
   refine AQ2.op rfl (AOp.la) rfl rfl ?_
   refine AQ2.ev rfl rfl rfl rfl ?_
   refine AQ2.op rfl (iX hx') rfl rfl ?_
   refine AQ2.op rfl (AOp.la) rfl rfl ?_
   refine AQ2.hole rfl rfl ?_
   refine AQ2.hole rfl rfl ?_
   refine AQ2.hole rfl rfl ?_
   refine AQ2.ev rfl rfl rfl rfl ?_
   first | refine AQ2.op rfl AOp.fa rfl rfl ?_ | refine AQ2.op rfl (AOp.fr 6) rfl rfl ?_
   refine AQ2.hole rfl rfl ?_
   refine AQ2.nil ?_
   repeat' (first | refine AX2.one (n := 3) 10 rfl ?_ | refine AX2.one (n := 2) 11 rfl ?_ | refine AX2.one (n := 1) 12 rfl ?_ | refine AX2.one (n := 0) 15 rfl ?_ | (refine AX2S.mk (i := 10) rfl rfl rfl (AOp.call rfl rfl hT) ?_ (by rintro _ _ ⟨_, e, _⟩; cases e); rintro _ _ ⟨n, e, rfl, hnf, hnn⟩; injection e with e; subst e; refine ax2_perm _ _ _ _ _ List.perm_append_comm ?_; dsimp only [sA, sB, sC, sD]) | (refine AX2S.mk (i := 11) rfl rfl rfl (AOp.lit (vs := [.ref n.b 0]) (e := 151) (sz := 1) (by kernel_rfl) rfl rfl rfl (P_one rfl) (by decide)) ?_ (by rintro _ _ ⟨e, _⟩; cases e); rintro _ _ ⟨e, rfl⟩; injection e with e; subst e; dsimp only [sA, sB, sC, sD]) | (refine AX2S.step (i := 12) rfl rfl rfl (AOp.append (i := 0) (xs := ns.map nrf) (ys := [.ref n.b 0]) (e := 151) (sz := 1) (bytes := 8) rfl rfl rfl rfl (by kernel_rfl) (by kernel_rfl) (all_map fun _ => rfl) (P_one rfl) rfl (by simp only [lM, List.length_singleton]; omega) (by simp only [lM, List.length_singleton]; omega)) ?_ (by rintro _ _ ⟨_, _, e, _⟩; cases e); rintro _ _ ⟨b', c', e, rfl⟩; injection e with e; subst e; dsimp only [sA, sB, sC, sD]) | (refine AX2S.sl 1 (i := 15) rfl rfl (fun _ => ?_); dsimp only [sA, sB, sC, sD]) | fail)
   all_goals refine AX2.done_keep [1,3,4] ?_
   have hmm : (ns ++ [n]).map nrf = ns.map nrf ++ [.ref n.b 0] := by simp [nrf]
   refine AW.frame_eq rfl (show _ = [Own.tail b' ((ns ++ [n]).map nrf).length c' 1, .box bw (.st [(⟨k, ar, nm, vars, args, fk⟩ : GFml).st, .slt ((ns ++ [n]).map nrf) b' c', .bool false, .bool false, .bool false, .bool false, .slt [] none 0, zTab])] ++ (nown n ++ nownL ns) from by rw [hmm]; rfl) ?_
   refine AW.perm ((List.perm_append_comm (l₁ := nown n)).append_left _) ?_
   repeat' (first | (refine xS 4 1 ?_; refine AL.d AOp.ad ?_; refine xN 1 ?_) | fail)
   refine AW.again_keep (fk.length - (i + 1)) [1, 3, 4] (by omega) ⟨i + 1, ns ++ [n], b', c', hlt, rfl, rfl, ?_, ?_, fun y hy => ?_⟩
   ·rw [nownL_app, nownL, nownL, List.append_nil]
   ·rw [List.map_append, hns, List.map_singleton, hnf, List.take_add_one, hx]; rfl
   ·rcases List.mem_append.1 hy with hy | hy
    ·exact hnew y hy
    ·obtain rfl := List.mem_singleton.1 hy; exact hnn
  ·have hi2 : i = fk.length := by omega
   rw [hi2, List.take_length] at hns
   repeat' (first | (refine xS 3 1 ?_; refine AL.d AOp.fa ?_; refine AL.d AOp.la ?_; refine xN 2 ?_) | refine AW.jj (fun hb => ?_) (fun hb => ?_) | refine AW.go ?_ | fail)
   all_goals try (exfalso; simp only [dT, dF, lM] at *; omega)
   refine AW.recast 1 (c' := .st [(⟨k, ar, nm, vars, args, fk⟩ : GFml).st, .sl (ns.map nrf), .bool false, .bool false, .bool false, .bool false, .slt [] none 0, zTab]) rfl (fun S w cs h => relc_set 1 _ rfl (fun cs h => slt_sl _ _ _ h) h) ?_
   refine AW.drop (List.sublist_cons_self _ _) ?_
   repeat' (first | refine AW.re 6 2 ?_ | fail)
   refine AW.retv rfl ⟨.mk bw ⟨k, ar, nm, vars, args, fk⟩ .m0 ns, rfl, ?_, rfl, fun N M T0 => ?_⟩
   ·show _ = .box bw (.st [_, .sl ((ns.map NT.b).map fun b => .ref b 0), _, _, _, _, _, _]) :: ([] ++ nownL ns)
    rw [List.map_map]
    rfl
   ·rw [KOk]
    exact ⟨trivial, hns, KOkL_of fun x hx => hnew x hx N M T0⟩
def elemsB (n : Int) (t : List Int) : Bool := !(t.any fun x => decide (x < 0) || decide (x ≥ n))
theorem elems_mem {n : Int} {t : List Int} (h : elemsB n t = true) : ∀ x ∈ t, 0 ≤ x ∧ x < n := by
 intro x hx
 simp only [elemsB, Bool.not_eq_true', List.any_eq_false] at h
 have := h x hx
 simp at this
 omega
def cmpI (a b : Int) : Int := if a < b then -1 else if a > b then 1 else 0
def cmpL : List Int → List Int → Int
 | [], [] => 0
 | [], _ :: _ => -1
 | _ :: _, [] => 1
 | x :: xs, y :: ys => if cmpI x y = 0 then cmpL xs ys else cmpI x y
def tupGo (n ar : Int) : Option (List Int) → List (List Int) → Bool
 | _, [] => true
 | prev, t :: ts => decide ((t.length : Int) = ar) && elemsB n t && (match prev with | none => true | some p => decide (cmpL p t < 0)) && tupGo n ar (some t) ts
theorem tupGo_cons (n ar : Int) (prev : Option (List Int)) (t : List Int) (ts : List (List Int)) : tupGo n ar prev (t :: ts) = (decide ((t.length : Int) = ar) && elemsB n t && (match prev with | none => true | some p => decide (cmpL p t < 0)) && tupGo n ar (some t) ts) := by cases prev <;> rfl
theorem tupGo_nil (n ar : Int) (prev : Option (List Int)) : tupGo n ar prev [] = true := by cases prev <;> rfl
def relB (n : Int) (r : GRel) : Bool := nameB r.Name && (decide (0 ≤ r.Arity) && decide (r.Arity ≤ 12)) && decide (ppow n r.Arity.toNat 1 ≤ 4096) && tupGo n r.Arity none r.Tuples
def relsGo (n : Int) (all : List GRel) : Nat → List GRel → Bool
 | _, [] => true
 | i, r :: rs => relB n r && !((all.take i).any fun q => decide (q.Name = r.Name)) && relsGo n all (i + 1) rs
def validStr (s : GStr) : Bool := decide (1 ≤ s.Size) && decide (s.Size ≤ 64) && decide (s.Rels.length ≤ 8) && relsGo s.Size s.Rels 0 s.Rels
theorem get_pred {α : Type} {l : List α} {i : Nat} (h : i ≤ l.length) (h0 : 0 < i) : ∃ p, l[i - 1]? = some p := get_lt (by omega)
theorem ppow_pos {n : Int} (hn : 1 ≤ n) : ∀ (k : Nat) (p : Int), 1 ≤ p → 1 ≤ ppow n k p
 | 0, p, h => h
 | k + 1, p, h => by
  rw [ppow]
  split
  ·have := Int.mul_le_mul h hn (by omega) (by omega)
   exact ppow_pos hn k _ (by omega)
  ·exact h
theorem elemsB_cons (n x : Int) (t : List Int) : elemsB n (x :: t) = (!(decide (x < 0) || decide (x ≥ n)) && elemsB n t) := by unfold elemsB; simp
theorem ref_InS (n : Int) (t : List Int) (hl : t.length ≤ 4611686018427387904) : Tri Tryz.prog 151 [.int .i64 n, ints t] [] (D (.bool (elemsB n t)) []) := by
 refine Tri.enter 25 Tryz.func151 rfl rfl rfl rfl fun Fr w0 => ?_
 repeat' (first | refine AW.re 0 1 ?_ | refine AW.re 1 1 ?_ | refine AW.go ?_ | fail)
 refine AW.prune [0, 1, 5] (AW.loop (fun mz af h => ∃ (i : Nat), i ≤ t.length ∧ mz = t.length - i ∧ af = [(0, .int .i64 n), (1, ints t), (5, .int .i64 i)] ∧ h = [] ∧ elemsB n t = elemsB n (t.drop i)) t.length ⟨0, Nat.zero_le _, rfl, rfl, rfl, rfl⟩ ?_)
 rintro mz af h ⟨i, hi, rfl, rfl, rfl, he⟩
 refine AW.seq ?_
 by_cases hlt : i < t.length
 ·obtain ⟨x, hx⟩ := get_lt hlt
  have hx' : (t.map iav)[((i : Nat) : Int).toNat]? = some (iav x) := map_get hx
  rw [drop_cons hx, elemsB_cons] at he
  repeat' (first | refine AW.re 2 4 ?_ | (refine xS 4 2 ?_; refine AL.d (iX hx') ?_; refine AL.es 3 ?_; ((refine AL.gx (fun hb => ?_) (fun hb => ?_) <;> refine AL.es 2 ?_)) <;> (first | (refine AL.gd ?_; refine AL.d (iX hx') ?_) | refine AL.gs ?_) <;> refine AL.es 4 ?_ <;> refine AL.nil ?_) | refine AW.re 5 1 ?_ | (refine xS 3 1 ?_; refine AL.d AOp.ad ?_; refine xN 1 ?_) | refine AW.jt ?_ | refine AW.jj (fun hb => ?_) (fun hb => ?_) | refine AW.go ?_ | fail)
  all_goals try (exfalso; simp only [dT, dF, lM] at *; omega)
  all_goals first
   | (refine AW.retv rfl ⟨retB ?_, rfl⟩; rw [he]; simp_all; done)
   | (refine AW.again_keep (t.length - (i + 1)) [0, 1, 5] (by omega) ⟨i + 1, hlt, rfl, rfl, rfl, ?_⟩; rw [he]; simp_all; done)
 ·rw [List.drop_eq_nil_of_le (by omega)] at he
  repeat' (first | refine AW.re 2 4 ?_ | refine AW.re 6 1 ?_ | refine AW.jj (fun hb => ?_) (fun hb => ?_) | refine AW.go ?_ | fail)
  all_goals try (exfalso; simp only [dT, dF, lM] at *; omega)
  exact AW.retv rfl ⟨by rw [he]; rfl, rfl⟩
theorem cmpL_same (a b : List Int) (x : Int) : cmpL (x :: a) (x :: b) = cmpL a b := by rw [cmpL, if_pos]; unfold cmpI; rw [if_neg (by omega), if_neg (by omega)]
theorem cmpL_diff (a b : List Int) {x y : Int} (h : x ≠ y) : (cmpL (x :: a) (y :: b) < 0) = (x < y) := by
 rw [cmpL, if_neg (by unfold cmpI; split; omega; split <;> omega)]
 unfold cmpI
 by_cases h1 : x < y
 ·rw [if_pos h1]; simp [h1]
 ·rw [if_neg h1, if_pos (by omega)]; simp [h1]
theorem ref_Less (a b : List Int) (hab : a.length = b.length) (hl : a.length ≤ 4611686018427387904) : Tri Tryz.prog 152 [ints a, ints b] [] (D (.bool (decide (cmpL a b < 0))) []) := by
 refine Tri.enter 30 Tryz.func152 rfl rfl rfl rfl fun Fr w0 => ?_
 repeat' (first | refine AW.re 0 1 ?_ | refine AW.re 1 1 ?_ | refine AW.go ?_ | fail)
 refine AW.prune [0, 1, 5] (AW.loop (fun mz af h => ∃ (i : Nat), i ≤ a.length ∧ mz = a.length - i ∧ af = [(0, ints a), (1, ints b), (5, .int .i64 i)] ∧ h = [] ∧ cmpL a b = cmpL (a.drop i) (b.drop i)) a.length ⟨0, Nat.zero_le _, rfl, rfl, rfl, rfl⟩ ?_)
 rintro mz af h ⟨i, hi, rfl, rfl, rfl, he⟩
 refine AW.seq ?_
 by_cases hlt : i < a.length
 ·obtain ⟨x, hx⟩ := get_lt hlt
  obtain ⟨y, hy⟩ := get_lt (show i < b.length by omega)
  have hx' : (a.map iav)[((i : Nat) : Int).toNat]? = some (iav x) := map_get hx
  have hy' : (b.map iav)[((i : Nat) : Int).toNat]? = some (iav y) := map_get hy
  rw [drop_cons hx, drop_cons hy] at he
  repeat' (first | refine AW.re 2 4 ?_ | (refine AW.dq 4 ?_; refine AQ.es 2 ?_; refine AQ.p rfl (iX hx') ?_; refine AQ.es 3 ?_; refine AQ.p rfl (iX hy') ?_; refine AQ.es 2 ?_; refine AQ.nil ?_) | (refine AW.dq 5 ?_; refine AQ.es 2 ?_; refine AQ.p rfl (iX hx') ?_; refine AQ.es 3 ?_; refine AQ.p rfl (iX hy') ?_; refine AQ.es 3 ?_; refine AQ.nil ?_) | (refine xS 3 1 ?_; refine AL.d AOp.ad ?_; refine xN 1 ?_) | refine AW.jj (fun hb => ?_) (fun hb => ?_) | refine AW.go ?_ | fail)
  all_goals try (exfalso; simp only [dT, dF, lM] at *; omega)
  ·refine AW.retv rfl ⟨congrArg (fun b => AEnd.ret (AV.bool b)) ?_, rfl⟩
   rw [he, decide_eq_decide, cmpL_diff _ _ (by simpa using hb)]
  ·refine AW.again_keep (a.length - (i + 1)) [0, 1, 5] (by omega) ⟨i + 1, hlt, rfl, rfl, rfl, ?_⟩
   obtain rfl : x = y := by simpa using hb
   rw [he, cmpL_same]
 ·rw [List.drop_eq_nil_of_le (by omega), List.drop_eq_nil_of_le (by omega)] at he
  repeat' (first | refine AW.re 2 4 ?_ | refine AW.re 6 1 ?_ | refine AW.jj (fun hb => ?_) (fun hb => ?_) | refine AW.go ?_ | fail)
  all_goals try (exfalso; simp only [dT, dF, lM] at *; omega)
  exact AW.retv rfl ⟨by rw [he]; rfl, rfl⟩
theorem ref_rel (n : Int) (hn : 1 ≤ n ∧ n ≤ 64) (r : GRel) (hr : r.Ok) : Tri Tryz.prog 109 [.int .i64 n, r.av] [] (D (.bool (relB n r)) []) := by
 have hN := ref_Name r.Name hr.1
 have htl : r.Tuples.length ≤ 4611686018427387904 := by have := hr.2.2.1; omega
 have hts : ∀ t ∈ r.Tuples, t.length ≤ 4611686018427387904 := fun t ht => by have := (hr.2.2.2 t ht).1; omega
 have hdef : relB n r = (nameB r.Name && (decide (0 ≤ r.Arity) && decide (r.Arity ≤ 12)) && decide (ppow n r.Arity.toNat 1 ≤ 4096) && tupGo n r.Arity none r.Tuples) := rfl
 rw [hdef]
 generalize nameB r.Name = b1 at *
 have hP : 0 ≤ r.Arity ∧ r.Arity ≤ 12 → Tri Tryz.prog 63 [.int .i64 n, .int .i64 r.Arity] [] (D (.int .i64 (ppow n r.Arity.toNat 1)) []) := fun h => ref_Pow n r.Arity hn (by omega)
 have hpp := ppow_pos hn.1 r.Arity.toNat 1 (by omega)
 by_cases har : 0 ≤ r.Arity ∧ r.Arity ≤ 12
 ·have hP := hP har
  rw [decide_eq_true har.1, decide_eq_true har.2]
  by_cases p1 : ppow n r.Arity.toNat 1 ≤ 4096
  ·rw [decide_eq_true p1]
   cases b1 with
   | false =>
    refine Tri.enter 72 Tryz.func109 rfl rfl rfl rfl fun Fr w0 => ?_
    repeat' (first | (refine AW.r 0 ?_; refine AL.d (AOp.box_ro rfl rfl) ?_; refine xN 1 ?_) | (refine xS 1 2 ?_; refine AL.d (AOp.call rfl rfl hN) ?_; refine AL.es 2 ?_; refine AL.es 5 ?_; refine AL.es 5 ?_; refine AL.es 3 ?_; refine AL.gs ?_; refine xN 2 ?_) | refine AW.re 2 1 ?_ | refine AW.jt ?_ | fail)
    all_goals try (exfalso; simp only [dT, dF, lM] at *; omega)
    all_goals exact AW.retv rfl ⟨rfl, rfl⟩
   | true =>
    refine Tri.enter 72 Tryz.func109 rfl rfl rfl rfl fun Fr w0 => ?_
    repeat' (first | (refine AW.r 0 ?_; refine AL.d (AOp.box_ro rfl rfl) ?_; refine xN 1 ?_) | (refine xS 1 2 ?_; refine AL.d (AOp.call rfl rfl hN) ?_; refine AL.es 2 ?_; refine AL.es 5 ?_; ((refine AL.gx (fun hb => ?_) (fun hb => ?_) <;> refine AL.es 5 ?_)) <;> (first | refine AL.es 3 ?_ | (refine AL.gx (fun hb => ?_) (fun hb => ?_) <;> refine AL.es 3 ?_)) <;> (first | (refine AL.gd ?_; (refine AL.d (AOp.call rfl rfl hP) ?_)) | refine AL.gs ?_) <;> refine AL.es 2 ?_ <;> refine AL.nil ?_) | refine AW.re 2 1 ?_ | refine AW.re 3 1 ?_ | refine AW.jt ?_ | refine AW.jj (fun hb => ?_) (fun hb => ?_) | refine AW.go ?_ | fail)
    all_goals try (exfalso; simp only [dT, dF, lM] at *; omega)
    refine AW.prune [0, 3, 5] (AW.loop (fun mz af h => ∃ (i : Nat), i ≤ r.Tuples.length ∧ mz = r.Tuples.length - i ∧ af = [(0, .int .i64 n), (3, .at r.av), (5, .int .i64 i)] ∧ h = [] ∧ (tupGo n r.Arity none r.Tuples = tupGo n r.Arity (if i = 0 then none else r.Tuples[i - 1]?) (r.Tuples.drop i) ∧ ∀ p, 0 < i → r.Tuples[i - 1]? = some p → (p.length : Int) = r.Arity)) r.Tuples.length ⟨0, Nat.zero_le _, rfl, rfl, rfl, ⟨rfl, fun p h => absurd h (by omega)⟩⟩ ?_)
    rintro mz af h ⟨i, hi, rfl, rfl, rfl, he⟩
    refine AW.seq ?_
    by_cases hlt : i < r.Tuples.length
    ·obtain ⟨he, hpr⟩ := he
     obtain ⟨x, hx⟩ := get_lt hlt
     have hx' : (r.Tuples.map ints)[((i : Nat) : Int).toNat]? = some (ints x) := map_get hx
     have hxl := hts x (lG hx)
     rw [drop_cons hx, tupGo_cons] at he
     have hnx : tupGo n r.Arity (some x) (r.Tuples.drop (i + 1)) = tupGo n r.Arity (if i + 1 = 0 then none else r.Tuples[i + 1 - 1]?) (r.Tuples.drop (i + 1)) := by simp [hx]
     have hel := ref_InS n x hxl
     have hlen : ((x.map iav).length : Int) = x.length := by simp
     rw [hnx] at he
     by_cases hxa : (x.length : Int) = r.Arity
     ·rw [decide_eq_true hxa] at he
      have hpr' : ∀ p, 0 < i + 1 → r.Tuples[i + 1 - 1]? = some p → (p.length : Int) = r.Arity := fun p _ h => by simp only [Nat.add_sub_cancel] at h; rw [hx] at h; injection h with h; rw [← h]; exact hxa
      by_cases h0 : i = 0
      ·subst h0
       repeat' (first | refine AW.re 4 5 ?_ | (refine AW.dq 6 ?_; refine AQ.es 3 ?_; refine AQ.p rfl (iX hx') ?_; refine AQ.es 6 ?_; ((refine AQ.x (fun hb => ?_) (fun hb => ?_) <;> refine AQ.es 4 ?_)) <;> (first | refine AQ.gp rfl (iX hx') ?_ | refine AQ.k ?_) <;> refine AQ.es 1 ?_ <;> (first | refine AQ.gp rfl (AOp.call rfl rfl hel) ?_ | refine AQ.k ?_) <;> refine AQ.es 3 ?_ <;> (first | refine AQ.es 3 ?_ | (refine AQ.x (fun hb => ?_) (fun hb => ?_) <;> refine AQ.es 3 ?_)) <;> (refine AQ.es 3 ?_) <;> (refine AQ.k ?_) <;> (refine AQ.k ?_) <;> refine AQ.es 4 ?_ <;> (refine AQ.k ?_) <;> refine AQ.es 1 ?_ <;> (refine AQ.k ?_) <;> refine AQ.es 3 ?_ <;> refine AQ.nil ?_) | refine AW.re 7 1 ?_ | (refine xS 5 1 ?_; refine AL.d AOp.ad ?_; refine xN 1 ?_) | refine AW.jt ?_ | refine AW.jf ?_ | refine AW.jj (fun hb => ?_) (fun hb => ?_) | refine AW.go ?_ | fail)
       all_goals try (exfalso; simp only [dT, dF, lM, bne_iff_ne, ne_eq, bne_eq_false_iff_eq] at *; omega)
       all_goals first
        | (refine AW.retv rfl ⟨retB ?_, rfl⟩; rw [he]; simp_all; done)
        | (refine AW.again_keep (r.Tuples.length - (0 + 1)) [0, 3, 5] (by omega) ⟨0 + 1, hlt, rfl, rfl, rfl, ?_, hpr'⟩; rw [he]; simp_all; done)
      ·obtain ⟨p, hp⟩ := get_pred hi (by omega)
       rw [if_neg h0, hp] at he
       simp only at he
       have hp' : (r.Tuples.map ints)[((i : Int) - 1).toNat]? = some (ints p) := by rw [show ((i : Int) - 1).toNat = i - 1 by omega]; exact map_get hp
       have hpl := hts p (lG hp)
       have hpa := hpr p (by omega) hp
       have hls := ref_Less p x (by omega) hpl
       repeat' (first | refine AW.re 4 5 ?_ | (refine AW.dq 6 ?_; refine AQ.es 3 ?_; refine AQ.p rfl (iX hx') ?_; refine AQ.es 6 ?_; ((refine AQ.x (fun hb => ?_) (fun hb => ?_) <;> refine AQ.es 4 ?_)) <;> (first | refine AQ.gp rfl (iX hx') ?_ | refine AQ.k ?_) <;> refine AQ.es 1 ?_ <;> (first | refine AQ.gp rfl (AOp.call rfl rfl hel) ?_ | refine AQ.k ?_) <;> refine AQ.es 3 ?_ <;> (first | refine AQ.es 3 ?_ | (refine AQ.x (fun hb => ?_) (fun hb => ?_) <;> refine AQ.es 3 ?_)) <;> (first | refine AQ.es 3 ?_ | (refine AQ.x (fun hb => ?_) (fun hb => ?_) <;> refine AQ.es 3 ?_)) <;> (first | refine AQ.gp rfl AOp.sb ?_ | refine AQ.k ?_) <;> (first | refine AQ.gp rfl (iX hp') ?_ | refine AQ.k ?_) <;> refine AQ.es 4 ?_ <;> (first | refine AQ.gp rfl (iX hx') ?_ | refine AQ.k ?_) <;> refine AQ.es 1 ?_ <;> (first | refine AQ.gp rfl (AOp.call rfl rfl hls) ?_ | refine AQ.k ?_) <;> refine AQ.es 3 ?_ <;> refine AQ.nil ?_) | refine AW.re 7 1 ?_ | (refine xS 5 1 ?_; refine AL.d AOp.ad ?_; refine xN 1 ?_) | refine AW.jt ?_ | refine AW.jf ?_ | refine AW.jj (fun hb => ?_) (fun hb => ?_) | refine AW.go ?_ | fail)
       all_goals try (exfalso; simp only [dT, dF, lM, bne_iff_ne, ne_eq, bne_eq_false_iff_eq] at *; omega)
       all_goals clear hel hls hP hN
       all_goals first
        | (refine AW.retv rfl ⟨retB ?_, rfl⟩; rw [he]; clear he hnx hpr hpr' hp hx hp' hx' hdef; simp_all; try (intros; omega))
        | (refine AW.again_keep (r.Tuples.length - (i + 1)) [0, 3, 5] (by omega) ⟨i + 1, hlt, rfl, rfl, rfl, ?_, hpr'⟩; rw [he]; clear he hnx hpr hpr' hp hx hp' hx' hdef; simp_all; done)
     ·rw [decide_eq_false hxa] at he
      repeat' (first | refine AW.re 4 5 ?_ | refine AW.jj (fun hb => ?_) (fun hb => ?_) | refine AW.go ?_ | fail)
      all_goals try (exfalso; simp only [dT, dF, lM] at *; omega)
      repeat' (first | (refine AW.dq 6 ?_; refine AQ.es 3 ?_; refine AQ.p rfl (iX hx') ?_; refine AQ.es 6 ?_; ((refine AQ.x (fun hb => ?_) (fun hb => ?_) <;> refine AQ.es 4 ?_)) <;> (first | (exfalso; simp only [dT, dF, lM, bne_iff_ne, ne_eq, bne_eq_false_iff_eq, beq_iff_eq, beq_eq_false_iff_ne] at *; omega) | refine AQ.k ?_) <;> refine AQ.es 1 ?_ <;> (refine AQ.k ?_) <;> refine AQ.es 3 ?_ <;> (refine AQ.es 3 ?_) <;> (refine AQ.es 3 ?_) <;> (refine AQ.k ?_) <;> (refine AQ.k ?_) <;> refine AQ.es 4 ?_ <;> (refine AQ.k ?_) <;> refine AQ.es 1 ?_ <;> (refine AQ.k ?_) <;> refine AQ.es 3 ?_ <;> refine AQ.nil ?_) | refine AW.re 7 1 ?_ | refine AW.jt ?_ | fail)
      all_goals try (exfalso; simp only [dT, dF, lM, bne_iff_ne, ne_eq, bne_eq_false_iff_eq] at *; omega)
      all_goals exact AW.retv rfl ⟨by rw [he]; rfl, rfl⟩
    ·obtain ⟨he, _⟩ := he
     rw [List.drop_eq_nil_of_le (by omega), tupGo_nil] at he
     repeat' (first | refine AW.re 4 5 ?_ | refine AW.re 8 1 ?_ | refine AW.jj (fun hb => ?_) (fun hb => ?_) | refine AW.go ?_ | fail)
     all_goals try (exfalso; simp only [dT, dF, lM] at *; omega)
     exact AW.retv rfl ⟨by rw [he]; rfl, rfl⟩
  ·rw [decide_eq_false (by omega)]
   have hz : (b1 && (true && true) && false && tupGo n r.Arity none r.Tuples) = false := by simp
   rw [hz]
   refine Tri.enter 72 Tryz.func109 rfl rfl rfl rfl fun Fr w0 => ?_
   repeat' (first | (refine AW.r 0 ?_; refine AL.d (AOp.box_ro rfl rfl) ?_; refine xN 1 ?_) | (refine xS 1 2 ?_; refine AL.d (AOp.call rfl rfl hN) ?_; refine AL.es 2 ?_; ((refine AL.gx (fun hb => ?_) (fun hb => ?_) <;> refine AL.es 5 ?_)) <;> (first | refine AL.es 5 ?_ | (refine AL.gx (fun hb => ?_) (fun hb => ?_) <;> refine AL.es 5 ?_)) <;> (first | refine AL.es 3 ?_ | (refine AL.gx (fun hb => ?_) (fun hb => ?_) <;> refine AL.es 3 ?_)) <;> (first | (refine AL.gd ?_; (refine AL.d (AOp.call rfl rfl hP) ?_)) | refine AL.gs ?_) <;> refine AL.es 2 ?_ <;> refine AL.nil ?_) | refine AW.re 2 1 ?_ | refine AW.re 3 1 ?_ | refine AW.jt ?_ | refine AW.jj (fun hb => ?_) (fun hb => ?_) | refine AW.go ?_ | fail)
   all_goals try (exfalso; simp only [dT, dF, lM] at *; omega)
   all_goals exact AW.retv rfl ⟨rfl, rfl⟩
 ·have hz : (b1 && (decide (0 ≤ r.Arity) && decide (r.Arity ≤ 12)) && decide (ppow n r.Arity.toNat 1 ≤ 4096) && tupGo n r.Arity none r.Tuples) = false := by
   rw [show (decide (0 ≤ r.Arity) && decide (r.Arity ≤ 12)) = false by rw [Bool.and_eq_false_iff, dF, dF]; omega]
   simp
  rw [hz]
  refine Tri.enter 72 Tryz.func109 rfl rfl rfl rfl fun Fr w0 => ?_
  repeat' (first | (refine AW.r 0 ?_; refine AL.d (AOp.box_ro rfl rfl) ?_; refine xN 1 ?_) | (refine xS 1 2 ?_; refine AL.d (AOp.call rfl rfl hN) ?_; refine AL.es 2 ?_; ((refine AL.gx (fun hb => ?_) (fun hb => ?_) <;> refine AL.es 5 ?_)) <;> (first | refine AL.es 5 ?_ | (refine AL.gx (fun hb => ?_) (fun hb => ?_) <;> refine AL.es 5 ?_)) <;> (first | refine AL.es 3 ?_ | (refine AL.gx (fun hb => ?_) (fun hb => ?_) <;> refine AL.es 3 ?_)) <;> (first | (refine AL.gd ?_; ((refine AL.d (AOp.call rfl rfl (hP (by simp only [dT, dF] at *; omega))) ?_))) | refine AL.gs ?_) <;> refine AL.es 2 ?_ <;> refine AL.nil ?_) | refine AW.re 2 1 ?_ | refine AW.re 3 1 ?_ | refine AW.jt ?_ | refine AW.jj (fun hb => ?_) (fun hb => ?_) | refine AW.go ?_ | fail)
  all_goals try (exfalso; simp only [dT, dF, lM] at *; omega)
  all_goals exact AW.retv rfl ⟨rfl, rfl⟩
theorem ref_ValidS (s : GStr) (hs : s.Ok) : Tri Tryz.prog 62 [s.av] [] (D (.bool (validStr s)) []) := by
 have hlen : ((s.Rels.map GRel.av).length : Int) = s.Rels.length := by simp
 obtain ⟨hs1, hs2, hs3⟩ := hs
 by_cases hg : 1 ≤ s.Size ∧ s.Size ≤ 64 ∧ s.Rels.length ≤ 8
 ·have hv : validStr s = relsGo s.Size s.Rels 0 s.Rels := by simp [validStr, hg.1, hg.2.1, hg.2.2]
  rw [hv]
  refine Tri.enter 53 Tryz.func62 rfl rfl rfl rfl fun Fr w0 => ?_
  repeat' (first | (refine AW.r 0 ?_; refine AL.d (AOp.box_ro rfl rfl) ?_; refine xN 1 ?_) | (refine xS 1 4 ?_; ((refine AL.gx (fun hb => ?_) (fun hb => ?_) <;> refine AL.es 5 ?_)) <;> (first | refine AL.es 5 ?_ | (refine AL.gx (fun hb => ?_) (fun hb => ?_) <;> refine AL.es 5 ?_)) <;> refine AL.nil ?_) | refine AW.re 2 1 ?_ | refine AW.re 3 1 ?_ | refine AW.jt ?_ | refine AW.jj (fun hb => ?_) (fun hb => ?_) | refine AW.go ?_ | fail)
  all_goals try (exfalso; simp only [dT, dF, lM] at *; omega)
  refine AW.prune [1, 3] (AW.loop (fun mz af h => ∃ (i : Nat), i ≤ s.Rels.length ∧ mz = s.Rels.length - i ∧ af = [(1, .at s.av), (3, .int .i64 i)] ∧ h = [] ∧ relsGo s.Size s.Rels 0 s.Rels = relsGo s.Size s.Rels i (s.Rels.drop i)) s.Rels.length ⟨0, Nat.zero_le _, rfl, rfl, rfl, rfl⟩ ?_)
  rintro mz af h ⟨i, hi, rfl, rfl, rfl, he⟩
  refine AW.seq ?_
  by_cases hlt : i < s.Rels.length
  ·obtain ⟨r, hx⟩ := get_lt hlt
   have hx' : (s.Rels.map GRel.av)[((i : Nat) : Int).toNat]? = some r.av := map_get hx
   have hr := ref_rel s.Size ⟨hg.1, hg.2.1⟩ r (hs3 r (lG hx))
   rw [drop_cons hx, relsGo] at he
   cases hrb : relB s.Size r with
   | false =>
    rw [hrb] at he hr
    repeat' (first | refine AW.re 4 5 ?_ | (refine AW.dq 6 ?_; refine AQ.es 5 ?_; refine AQ.p rfl (iX hx') ?_; refine AQ.es 1 ?_; refine AQ.p rfl (AOp.call rfl rfl hr) ?_; refine AQ.es 1 ?_; refine AQ.nil ?_) | refine AW.re 7 1 ?_ | refine AW.jt ?_ | refine AW.jj (fun hb => ?_) (fun hb => ?_) | refine AW.go ?_ | fail)
    all_goals try (exfalso; simp only [dT, dF, lM] at *; omega)
    exact AW.retv rfl ⟨by rw [he]; rfl, rfl⟩
   | true =>
    rw [hrb, Bool.true_and] at he
    rw [hrb] at hr
    repeat' (first | refine AW.re 4 5 ?_ | (refine AW.dq 6 ?_; refine AQ.es 5 ?_; refine AQ.p rfl (iX hx') ?_; refine AQ.es 1 ?_; refine AQ.p rfl (AOp.call rfl rfl hr) ?_; refine AQ.es 1 ?_; refine AQ.nil ?_) | refine AW.re 8 1 ?_ | refine AW.jf ?_ | refine AW.jj (fun hb => ?_) (fun hb => ?_) | refine AW.go ?_ | fail)
    all_goals try (exfalso; simp only [dT, dF, lM] at *; omega)
    refine AW.prune [1, 3, 4] (AW.loop (fun m af h => ∃ k : Nat, k ≤ i ∧ m = i - k ∧ af = [(1, .at s.av), (3, .int .i64 i), (4, .int .i64 k)] ∧ h = [] ∧ ((s.Rels.take i).any fun q => decide (q.Name = r.Name)) = (((s.Rels.take i).drop k).any fun q => decide (q.Name = r.Name))) i ⟨0, Nat.zero_le _, rfl, rfl, rfl, rfl⟩ ?_)
    rintro m af h ⟨k, hk, rfl, rfl, rfl, hq⟩
    refine AW.seq ?_
    by_cases hkt : k < i
    ·obtain ⟨q, hq'⟩ := get_lt (show k < (s.Rels.take i).length by rw [List.length_take]; omega)
     have hqa : s.Rels[k]? = some q := by rw [List.getElem?_take, if_pos hkt] at hq'; exact hq'
     have hqx : (s.Rels.map GRel.av)[((k : Nat) : Int).toNat]? = some q.av := map_get hqa
     rw [drop_cons hq', List.any_cons] at hq
     repeat' (first | refine AW.re 9 3 ?_ | (refine AW.dq 11 ?_; refine AQ.es 3 ?_; refine AQ.p rfl (iX hqx) ?_; refine AQ.es 5 ?_; refine AQ.p rfl (iX hx') ?_; refine AQ.es 3 ?_; refine AQ.nil ?_) | refine AW.re 12 1 ?_ | (refine xS 10 1 ?_; refine AL.d AOp.ad ?_; refine xN 1 ?_) | refine AW.jj (fun hb => ?_) (fun hb => ?_) | refine AW.go ?_ | fail)
     all_goals try (exfalso; simp only [dT, dF, lM] at *; omega)
     all_goals rw [toList_beq] at hb
     ·refine AW.retv rfl ⟨?_, rfl⟩
      rw [he, hq, hb]; rfl
     ·refine AW.again_keep (i - (k + 1)) [1, 3, 4] (by omega) ⟨k + 1, hkt, rfl, rfl, rfl, ?_⟩
      rw [hq, hb]; rfl
    ·rw [List.drop_eq_nil_of_le (by rw [List.length_take]; omega)] at hq
     repeat' (first | refine AW.re 9 3 ?_ | (refine xS 5 1 ?_; refine AL.d AOp.ad ?_; refine xN 1 ?_) | refine AW.jj (fun hb => ?_) (fun hb => ?_) | refine AW.go ?_ | fail)
     all_goals try (exfalso; simp only [dT, dF, lM] at *; omega)
     refine AW.again_keep (s.Rels.length - (i + 1)) [1, 3] (by omega) ⟨i + 1, hlt, rfl, rfl, rfl, ?_⟩
     rw [he, hq]; rfl
  ·rw [List.drop_eq_nil_of_le (by omega), relsGo] at he
   repeat' (first | refine AW.re 4 5 ?_ | refine AW.re 13 1 ?_ | refine AW.jj (fun hb => ?_) (fun hb => ?_) | refine AW.go ?_ | fail)
   all_goals try (exfalso; simp only [dT, dF, lM] at *; omega)
   exact AW.retv rfl ⟨by rw [he]; rfl, rfl⟩
 ·have hv : validStr s = false := by
   simp only [validStr, Bool.and_eq_false_iff, dF]; omega
  rw [hv]
  refine Tri.enter 53 Tryz.func62 rfl rfl rfl rfl fun Fr w0 => ?_
  repeat' (first | (refine AW.r 0 ?_; refine AL.d (AOp.box_ro rfl rfl) ?_; refine xN 1 ?_) | (refine xS 1 4 ?_; ((refine AL.gx (fun hb => ?_) (fun hb => ?_) <;> refine AL.es 5 ?_)) <;> (first | refine AL.es 5 ?_ | (refine AL.gx (fun hb => ?_) (fun hb => ?_) <;> refine AL.es 5 ?_)) <;> refine AL.nil ?_) | refine AW.re 2 1 ?_ | refine AW.re 3 1 ?_ | refine AW.jt ?_ | refine AW.jj (fun hb => ?_) (fun hb => ?_) | refine AW.go ?_ | fail)
  all_goals try (exfalso; simp only [dT, dF, lM] at *; omega)
  all_goals exact AW.retv rfl ⟨rfl, rfl⟩
def tabN (N : Nat) : List (List Int) → List Bool → List Bool
 | [], xs => xs
 | t :: l, xs => tabN N l (xs.set (rankI N t 0).toNat true)
theorem tabN_len (N : Nat) : ∀ (l : List (List Int)) (xs : List Bool), (tabN N l xs).length = xs.length
 | [], xs => rfl
 | t :: l, xs => by rw [tabN, tabN_len N l]; simp
theorem ref_TableOf (n k : Nat) (nm : ByteArray) (l : List (List Int)) (hn : 1 ≤ n ∧ n ≤ 64) (hk : k ≤ 12) (hp : n ^ k ≤ 4096) (hl : l.length ≤ 4611686018427387904) (ht : ∀ t ∈ l, t.length = k ∧ ∀ x ∈ t, 0 ≤ x ∧ x < n) :
  Tri Tryz.prog 154 [.int .i64 n, .str nm, .int .i64 k, .sl (l.map ints)] [] (fun x h => ∃ b, x = .ret (.st [.str nm, .int .i64 k, .osl b (n ^ k) (n ^ k)]) ∧ h = [.row b ((tabN n l (falses (n ^ k))).map bav)]) := by
 have hP := ref_PowN n k hn (by omega) hp
 have hpk : n ^ k = n ^ k := rfl
 generalize hm : n ^ k = m at *
 refine Tri.enter 34 Tryz.func154 rfl rfl rfl rfl fun Fr w0 => ?_
 repeat' (first | (refine AW.r 0 ?_; refine AL.alloc_z zTb (by kernel_rfl) rfl rfl fun b8 => ?_; refine AL.nil ?_) | refine AW.go ?_ | fail)
 repeat' (first | (refine xS 1 4 ?_; refine AL.d (AOp.call rfl rfl (hP.pure _)) ?_; refine AL.makeSlice (n := m) (e := 4) (c := .bool false) (z := .bool false) (bytes := 1) rfl rfl (by kernel_rfl) rfl (by omega) (by omega) rfl fun b => ?_; refine AL.d (AOp.build (pl := [(0, 1), (1, 1), (2, 1)]) (z := .st [.str ⟨#[]⟩, .int .i64 0, .sl []]) (by kernel_rfl) rfl rfl rfl) ?_ <;> refine AL.alloc_store (by kernel_rfl) rfl rfl rfl rfl ?_ <;> refine AL.nil ?_) | refine AW.re 2 1 ?_ | refine AW.go ?_ | fail)
 refine AW.frame_eq rfl (ah' := [.row b ((falses m).map bav), .box b8 zTb]) (by rw [falses_map]) ?_
 refine AW.prune [0, 3, 8, 9, 10] (AW.loop (fun mz af h => ∃ (i : Nat) (xs : List Bool), i ≤ l.length ∧ mz = l.length - i ∧ af = [(0, .int .i64 n), (3, .sl (l.map ints)), (8, .ref b8 0), (9, .at (.st [.str nm, .int .i64 k, .osl b m m])), (10, .int .i64 i)] ∧ h = [.row b (xs.map bav), .box b8 zTb] ∧ (xs.length = m ∧ tabN n l (falses m) = tabN n (l.drop i) xs)) l.length ⟨0, falses m, Nat.zero_le _, rfl, rfl, rfl, ⟨falses_len m, rfl⟩⟩ ?_)
 rintro mz af h ⟨i, xs, hi, rfl, rfl, rfl, he⟩
 refine AW.seq ?_
 by_cases hlt : i < l.length
 all_goals obtain ⟨hxl, he⟩ := he
 ·obtain ⟨t, hx⟩ := get_lt hlt
  have hx' : (l.map ints)[((i : Nat) : Int).toNat]? = some (ints t) := map_get hx
  obtain ⟨htl, hel⟩ := ht t (lG hx)
  have hR := ref_rank3 n ⟨hn.1, hn.2⟩ t (by omega) hel (by rw [htl, hm]; omega)
  have hb := rankI_bd hn.1 t 0 0 hel (Int.le_refl _) (by simp)
  rw [Nat.zero_add, htl, hm] at hb
  rw [drop_cons hx, tabN] at he
  repeat' (first | refine AW.re 3 4 ?_ | refine AW.jj (fun hb => ?_) (fun hb => ?_) | refine AW.go ?_ | fail)
  all_goals try (exfalso; simp only [dT, dF, lM] at *; omega)
  repeat' (first | (refine AW.dl 5 9 ?_; refine AQ.es 5 ?_; refine AQ.p rfl (iX hx') ?_; refine AQ.es 1 ?_; refine AQ.p rfl (AOp.call rfl rfl (hR.pure _)) ?_; refine AQ.p rfl (AOp.index_osl rfl rfl (by omega) (by omega) (by kernel_rfl)) ?_; refine AQ.nil ?_; refine AL.store_cell 0 rfl rfl rfl (by simp; omega) rfl rfl (by kernel_rfl) ?_ <;> refine AL.nil ?_) | (refine xS 4 1 ?_; refine AL.d AOp.ad ?_; refine xN 1 ?_) | fail)
  refine AW.again_keep (l.length - (i + 1)) [0, 3, 8, 9, 10] (by omega) ⟨i + 1, _, hlt, rfl, rfl, ?_, ?_, he⟩
  ·rw [List.map_set]; rfl
  ·simp [hxl]
 ·rw [List.drop_eq_nil_of_le (by omega), tabN] at he
  repeat' (first | refine AW.re 3 4 ?_ | refine AW.jj (fun hb => ?_) (fun hb => ?_) | refine AW.go ?_ | fail)
  all_goals try (exfalso; simp only [dT, dF, lM] at *; omega)
  repeat' (first | (refine AW.r 6 ?_; refine AL.d AOp.la ?_; refine AL.sl 1 ?_; refine AL.nil ?_) | fail)
  exact AW.retc (vs := [.st [.str nm, .int .i64 k, .osl b m m]]) (.cell 1 rfl rfl (by kernel_rfl) .nil) (ah' := [.row b (xs.map bav)]) (by simp) ⟨b, rfl, by rw [he]⟩
theorem rels_mem {n : Int} {all : List GRel} : ∀ (l : List GRel) (i : Nat), relsGo n all i l = true → ∀ r ∈ l, relB n r = true
 | [], _, _, r, h => by cases h
 | q :: l, i, h, r, hr => by
  simp only [relsGo, bA] at h
  rcases List.mem_cons.1 hr with rfl | hr
  ·exact h.1.1
  ·exact rels_mem l (i + 1) h.2 r hr
theorem tupGo_mem {n ar : Int} : ∀ (l : List (List Int)) (p : Option (List Int)), tupGo n ar p l = true → ∀ t ∈ l, (t.length : Int) = ar ∧ elemsB n t = true
 | [], p, h, t, ht => by cases ht
 | q :: l, p, h, t, ht => by
  rw [tupGo_cons] at h
  simp only [bA, dT] at h
  rcases List.mem_cons.1 ht with rfl | ht
  ·exact ⟨h.1.1.1, h.1.1.2⟩
  ·exact tupGo_mem l _ h.2 t ht
structure SOk (N : Nat) (s : GStr) : Prop where
 size : s.Size = N
 n1 : 1 ≤ N
 n2 : N ≤ 64
 few : s.Rels.length ≤ 8
 rel : ∀ r ∈ s.Rels, ∃ k : Nat, r.Arity = k ∧ k ≤ 12 ∧ N ^ k ≤ 4096 ∧ nameB r.Name = true ∧ ∀ t ∈ r.Tuples, t.length = k ∧ ∀ x ∈ t, 0 ≤ x ∧ x < N
theorem SOk_of {s : GStr} (hv : validStr s = true) : ∃ N, SOk N s := by
 simp only [validStr, bA, dT] at hv
 obtain ⟨⟨⟨h1, h2⟩, h3⟩, h4⟩ := hv
 refine ⟨s.Size.toNat, by omega, by omega, by omega, h3, fun r hr => ?_⟩
 have hb := rels_mem _ _ h4 r hr
 simp only [relB, bA, dT] at hb
 obtain ⟨⟨⟨a, b1, b2⟩, c⟩, d⟩ := hb
 have hv := ppow_val (n := s.Size.toNat) (by omega) r.Arity.toNat 1 (Nat.le_refl _)
 have hs : ((s.Size.toNat : Nat) : Int) = s.Size := by omega
 rw [hs] at hv
 refine ⟨r.Arity.toNat, by omega, by omega, by have := hv.2.1 c; omega, a, fun t ht => ?_⟩
 obtain ⟨q1, q2⟩ := tupGo_mem _ _ d t ht
 exact ⟨by omega, fun x hx => by have := elems_mem q2 x hx; omega⟩
def relN (N : Nat) (r : GRel) : ByteArray × List Bool := (r.Name, tabN N r.Tuples (falses (N ^ r.Arity.toNat)))
def strT (N : Nat) (s : GStr) : TT := s.Rels.map (relN N)
structure W0 (N base : Nat) (T : TT) (w : WS) : Prop where
 ok : w.Ok
 eN : w.N = N
 eb : w.base = base
 ns : w.ns = []
 vs : w.vs = []
 eT : w.T = T
 lg : w.long = false
theorem ref_Of (N : Nat) (s : GStr) (hs : s.Ok) (hv : SOk N s) : Tri Tryz.prog 116 [s.av] [] (fun x h => ∃ bw w, x = .ret (.ref bw 0) ∧ h = wH bw w ∧ W0 N s.Rels.length (strT N s) w) := by
 obtain ⟨v1, v2, v3, v4, v5⟩ := hv
 have hlen : ((s.Rels.map GRel.av).length : Int) = s.Rels.length := by simp
 refine Tri.enter 50 Tryz.func116 rfl rfl rfl rfl fun Fr w0 => ?_
 repeat' (first | (refine AW.r 0 ?_; refine AL.d (AOp.box_ro rfl rfl) ?_; refine xN 1 ?_) | refine AW.go ?_ | fail)
 repeat' (first | (refine xS 1 5 ?_; (refine AL.d (AOp.build (pl := [(0, 1), (1, 1), (2, 1), (3, 1), (4, 1), (5, 1)]) (z := .st [.int .i64 0, .int .i64 0, nilS, nilS, nilS, .bool false]) (by kernel_rfl) rfl rfl rfl) ?_) <;> refine AL.box rfl rfl rfl fun bw => ?_ <;> refine AL.es 1 ?_ <;> refine AL.nil ?_) | refine AW.go ?_ | fail)
 refine AW.own_nil 1 (AW.own_nil 1 (AW.own_nil 1 ?_))
 refine AW.perm (List.perm_append_comm (l₁ := [_, _, _])) ?_
 obtain ⟨w0, hw0⟩ : ∃ w : WS, w = ⟨N, s.Rels.length, false, none, 0, [], [], none, 0, [], [], none, 0, [], []⟩ := ⟨_, rfl⟩
 have hW0 : W0 N s.Rels.length ((strT N s).take 0) w0 := by
  subst hw0
  exact ⟨⟨v2, v3, rfl, fun _ => ⟨rfl, rfl⟩, by show (0 : Nat) ≤ 10000; omega, rfl, fun _ => ⟨rfl, rfl⟩, by show (0 : Nat) ≤ 100000; omega, rfl, fun _ => ⟨rfl, rfl⟩, rfl, fun x hx => by cases hx⟩, rfl, rfl, rfl, rfl, rfl, rfl⟩
 refine AW.frame_eq rfl (show _ = wH bw w0 from ?_) ?_
 ·subst hw0; rw [hlen, v1]; rfl
 repeat' (first | refine AW.re 2 1 ?_ | refine AW.go ?_ | fail)
 refine AW.prune [1, 3, 4] (AW.loop (fun mz af h => ∃ (i : Nat) (w : WS), i ≤ s.Rels.length ∧ mz = s.Rels.length - i ∧ af = [(1, .at s.av), (3, .ref bw 0), (4, .int .i64 i)] ∧ h = wH bw w ∧ W0 N s.Rels.length ((strT N s).take i) w) s.Rels.length ⟨0, w0, Nat.zero_le _, rfl, rfl, rfl, hW0⟩ ?_)
 rintro mz af h ⟨i, w, hi, rfl, rfl, rfl, he⟩
 refine AW.seq ?_
 by_cases hlt : i < s.Rels.length
 ·obtain ⟨r, hx⟩ := get_lt hlt
  obtain ⟨k, hk, hk2, hkp, hkn, hkt⟩ := v5 r (lG hx)
  have hx' : (s.Rels.map GRel.av)[((i : Nat) : Int).toNat]? = some (.st [.str r.Name, .int .i64 k, .sl (r.Tuples.map ints)]) := by rw [← hk]; exact map_get hx
  have hrT := (hs.2.2 r (lG hx)).2.2.1
  have hT := ref_TableOf N k r.Name r.Tuples ⟨v2, v3⟩ hk2 hkp (by omega) hkt
  obtain ⟨bits, hbits⟩ : ∃ bits, bits = tabN N r.Tuples (falses (N ^ k)) := ⟨_, rfl⟩
  rw [← hbits, ← v1] at hT
  have hbl : bits.length = N ^ k := by rw [hbits, tabN_len, falses_len]
  obtain ⟨ok, eN, eb, ens, evs, eT, elg⟩ := he
  have ok' := ok
  obtain ⟨n1, n2, t1, t2, t3, _⟩ := ok
  have hcl := tcells_len w.ts
  have hwl : w.ts.length = i := by have := congrArg List.length eT; unfold WS.T strT at this; simp at this; omega
  have hr3 : ∀ hb, ∀ y ∈ [AV.str r.Name, .int .i64 k, .osl hb (N ^ k) (N ^ k)], y.size = 1 := fun hb y hy => by rcases List.mem_cons.1 hy with rfl | hy; rfl; rcases List.mem_cons.1 hy with rfl | hy; rfl; rw [List.mem_singleton.1 hy]; rfl
  repeat' (first | refine AW.re 3 5 ?_ | refine AW.jj (fun hb => ?_) (fun hb => ?_) | refine AW.go ?_ | fail)
  all_goals try (exfalso; simp only [dT, dF, lM] at *; omega)
  refine AW.frame_eq rfl (show _ = [Own.box bw (.st [.int .i64 w.N, .int .i64 w.base, bfV w.to w.ts.length w.tc, bfV w.no w.ns.length w.nc, bfV w.vo w.vs.length w.vc, .bool w.long]), bfO w.to (tcells w.ts ++ w.tt)] ++ (bfO w.no (w.ns.map AV.str ++ w.nt) :: bfO w.vo (w.vs.map iav ++ w.vt) :: w.ts.map TE.row) from rfl) ?_
  repeat' (first | fail)
  refine AW.explore2 [25,26] [25, 26, 27, 30] rfl (by kernel_rfl) (by kernel_rfl) (by kernel_rfl) (by kernel_rfl) ?_
  refine AQ2.ev rfl rfl rfl rfl ?_
  refine AQ2.ev rfl rfl rfl rfl ?_
  refine AQ2.ev rfl rfl rfl rfl ?_
  first | refine AQ2.op rfl AOp.fa rfl rfl ?_ | refine AQ2.op rfl (AOp.fr 2) rfl rfl ?_
  refine AQ2.pe rfl (AOp.ll 0) ?_
  first | refine AQ2.op rfl AOp.fa rfl rfl ?_ | refine AQ2.op rfl (AOp.fr 0) rfl rfl ?_
  refine AQ2.op rfl (AOp.la) rfl rfl ?_
  first | refine AQ2.op rfl AOp.fa rfl rfl ?_ | refine AQ2.op rfl (AOp.fr 1) rfl rfl ?_
  refine AQ2.op rfl (AOp.la) rfl rfl ?_
  refine AQ2.ev rfl rfl rfl rfl ?_
  refine AQ2.op rfl (iX hx') rfl rfl ?_
  first | refine AQ2.op rfl AOp.fa rfl rfl ?_ | refine AQ2.op rfl (AOp.fr 0) rfl rfl ?_
  refine AQ2.op rfl (AOp.la) rfl rfl ?_
  first | refine AQ2.op rfl AOp.fa rfl rfl ?_ | refine AQ2.op rfl (AOp.fr 1) rfl rfl ?_
  refine AQ2.op rfl (AOp.la) rfl rfl ?_
  refine AQ2.ev rfl rfl rfl rfl ?_
  refine AQ2.op rfl (iX hx') rfl rfl ?_
  first | refine AQ2.op rfl AOp.fa rfl rfl ?_ | refine AQ2.op rfl (AOp.fr 1) rfl rfl ?_
  refine AQ2.op rfl (AOp.la) rfl rfl ?_
  first | refine AQ2.op rfl AOp.fa rfl rfl ?_ | refine AQ2.op rfl (AOp.fr 1) rfl rfl ?_
  refine AQ2.op rfl (AOp.la) rfl rfl ?_
  refine AQ2.ev rfl rfl rfl rfl ?_
  refine AQ2.op rfl (iX hx') rfl rfl ?_
  first | refine AQ2.op rfl AOp.fa rfl rfl ?_ | refine AQ2.op rfl (AOp.fr 2) rfl rfl ?_
  refine AQ2.op rfl (AOp.la) rfl rfl ?_
  refine AQ2.hole rfl rfl ?_
  refine AQ2.hole rfl rfl ?_
  refine AQ2.hole rfl rfl ?_
  refine AQ2.ev rfl rfl rfl rfl ?_
  first | refine AQ2.op rfl AOp.fa rfl rfl ?_ | refine AQ2.op rfl (AOp.fr 2) rfl rfl ?_
  refine AQ2.hole rfl rfl ?_
  refine AQ2.nil ?_
  repeat' (first | refine AX2.one (n := 3) 25 rfl ?_ | refine AX2.one (n := 2) 26 rfl ?_ | refine AX2.one (n := 1) 27 rfl ?_ | refine AX2.one (n := 0) 30 rfl ?_ | (refine AX2S.mk (i := 25) rfl rfl rfl (AOp.call rfl rfl hT) ?_ (by rintro _ _ ⟨_, e, _⟩; cases e); rintro _ _ ⟨hb2, e, rfl⟩; injection e with e; subst e; dsimp only [sA, sB, sC, sD]) | (refine AX2S.mk (i := 26) rfl rfl rfl (AOp.lit (vs := [.st [.str r.Name, .int .i64 k, .osl hb2 (N ^ k) (N ^ k)]]) (e := 193) (sz := 3) (by kernel_rfl) rfl rfl rfl (P_one rfl) (by decide)) ?_ (by rintro _ _ ⟨e, _⟩; cases e); rintro _ _ ⟨e, rfl⟩; injection e with e; subst e; dsimp only [sA, sB, sC, sD]) | (refine AX2S.step (i := 27) rfl rfl rfl (AOp.append_bf 2 3 (o := w.to) (n := w.ts.length) (c := w.tc) (us := tcells w.ts) (tl := w.tt) (ys := [.str r.Name, .int .i64 k, .osl hb2 (N ^ k) (N ^ k)]) (m := 1) (e := 193) (bytes := 48) rfl rfl (by omega) (by omega) t2 (SrcC.one (fs := [.str r.Name, .int .i64 k, .osl hb2 (N ^ k) (N ^ k)]) rfl (hr3 _)) rfl (hr3 _) rfl (by omega) (by kernel_rfl) (by kernel_rfl) (by omega) (by omega)) ?_ (by rintro _ _ ⟨_, _, _, e, _⟩; cases e); rintro _ _ ⟨o, c, tl, e, rfl, q1, q2, q3⟩; injection e with e; subst e; dsimp only [sA, sB, sC, sD]) | (refine AX2S.sl 1 (i := 30) rfl rfl (fun _ => ?_); dsimp only [sA, sB, sC, sD]) | fail)
  all_goals refine AX2.done_keep [1,3,4] ?_
  obtain ⟨now, hnow⟩ : ∃ t : TE, t = ⟨r.Name, k, hb2, bits⟩ := ⟨_, rfl⟩
  have hcells : now.cells = [.str r.Name, .int .i64 k, .osl hb2 (N ^ k) (N ^ k)] := by rw [hnow, TE.cells, hbl]
  rw [← hcells] at q1
  refine AW.frame_eq rfl (show _ = now.row :: (.box bw (.st [.int .i64 w.N, .int .i64 w.base, bfV o (w.ts.length + 1) c, bfV w.no w.ns.length w.nc, bfV w.vo w.vs.length w.vc, .bool w.long]) :: bfO o (tcells w.ts ++ now.cells ++ tl) :: bfO w.no (w.ns.map AV.str ++ w.nt) :: bfO w.vo (w.vs.map iav ++ w.vt) :: w.ts.map TE.row) from by rw [hcells, hnow]; rfl) ?_
  refine AW.perm (b := wH bw (w.push o c tl now)) (by rw [wH_push]; exact (List.perm_append_comm (l₁ := [now.row])).trans (List.Perm.refl _)) ?_
  repeat' (first | (refine xS 4 1 ?_; refine AL.d AOp.ad ?_; refine xN 1 ?_) | fail)
  refine AW.again_keep (s.Rels.length - (i + 1)) [1, 3, 4] (by omega) ⟨i + 1, w.push o c tl now, hlt, rfl, rfl, rfl, ⟨WS.push_ok ok' q1 q2 (by omega), eN, eb, ens, evs, ?_, elg⟩⟩
  rw [show (w.push o c tl now).T = w.T ++ [(now.nm, now.bits)] from WS.T_app rfl, eT, List.take_add_one, show (strT N s)[i]? = some (relN N r) by unfold strT; rw [List.getElem?_map, hx]; rfl]
  rw [hnow, relN, hk, hbits]
  rfl
 ·have hi2 : i = s.Rels.length := by omega
  have hsl : (strT N s).length = s.Rels.length := by simp [strT]
  rw [hi2, ← hsl, List.take_length] at he
  rw [hsl] at he
  repeat' (first | refine AW.re 3 5 ?_ | refine AW.jj (fun hb => ?_) (fun hb => ?_) | refine AW.go ?_ | fail)
  all_goals try (exfalso; simp only [dT, dF, lM] at *; omega)
  repeat' (first | refine AW.re 6 2 ?_ | fail)
  exact AW.retv rfl ⟨bw, w, rfl, rfl, he⟩
def qryL (N M : Nat) (f : GFml) (T : TT) (vars : List ByteArray) (m : Nat) : List (List Int) := (tupL N vars.length m).filter fun t => sem N M f T (vars.zip t)
theorem qryL_len (N M : Nat) (f : GFml) (T : TT) (vars : List ByteArray) (m : Nat) : (qryL N M f T vars m).length ≤ m := by
 unfold qryL
 exact Nat.le_trans (List.length_filter_le _ _) (by rw [tupL_len]; omega)
theorem qryL_snoc (N M : Nat) (f : GFml) (T : TT) (vars : List ByteArray) (i : Nat) : qryL N M f T vars (i + 1) = qryL N M f T vars i ++ if sem N M f T (vars.zip (tup N vars.length i)) then [tup N vars.length i] else [] := by
 unfold qryL
 rw [tupL_snoc, List.filter_append]
 congr 1
 cases h : sem N M f T (vars.zip (tup N vars.length i)) <;> simp [h]
theorem ref_Query (N M : Nat) (f : GFml) (s : GStr) (vars : List ByteArray) (hM : 5001 < M) (hs : s.Ok) (hv : SOk N s) (hf : f.Ok) (hsh : shsF f = true) (hg : grF f = true) (hnd : ndF f ≤ 1500) (hvl : vars.length ≤ 24) (hp : N ^ vars.length ≤ 4096)
  (hok : okF N f (tl (strT N s))) :
  Tri Tryz.prog 67 [f.st, s.av, strs vars] [] (fun x h => ∃ lg, x = .ret (.tup [.sl ((qryL N M f (strT N s) vars (N ^ vars.length)).map ints), .bool lg]) ∧ h = []) := by
 have hO := ref_Of N s hs hv
 have hT := ref_Tree (ndF f) f (Nat.le_refl _) hf (by omega)
 have hTu := ref_Tuples N vars.length ⟨hv.n1, hv.n2⟩ (by omega) hp
 obtain ⟨L, hL⟩ : ∃ L, L = N ^ vars.length := ⟨_, rfl⟩
 rw [← hL] at hp hTu
 rw [← hL]
 have hsa : s.av = .st [.int .i64 N, .sl (s.Rels.map GRel.av)] := by unfold GStr.av; rw [hv.size]
 rw [hsa] at hO
 rw [hsa]
 have hvlen : ((vars.map AV.str).length : Int) = vars.length := by simp
 rw [← hvlen] at hTu
 refine Tri.enter 47 Tryz.func67 rfl rfl rfl rfl fun Fr w0 => ?_
 repeat' (first | (refine AW.r 0 ?_; refine AL.d (AOp.box_ro rfl rfl) ?_; refine AL.d (AOp.box_ro rfl rfl) ?_; refine AL.d AOp.assign_nil ?_; refine AL.e ?_; refine AL.nil ?_) | fail)
 refine AW.seq ?_
 refine AW.cut (fun af h => ∃ bw w n, af = [(2, strs vars), (4, .at (.st [.int .i64 N, .sl (s.Rels.map GRel.av)])), (6, .slt [] none 0), (8, .ref bw 0), (9, .ref n.b 0)] ∧ h = hH bw w n ∧ W0 N s.Rels.length (strT N s) w ∧ n.f = f ∧ NewT n) ?_ ?_
 ·refine AW.frame_eq rfl (show _ = [] ++ [] from rfl) ?_
  repeat' (first | fail)
  refine AW.explore2 [1,3] [1, 3, 4, 5] rfl (by kernel_rfl) (by kernel_rfl) (by kernel_rfl) (by kernel_rfl) ?_
  refine AQ2.op rfl (AOp.la) rfl rfl ?_
  refine AQ2.hole rfl rfl ?_
  refine AQ2.op rfl (AOp.la) rfl rfl ?_
  refine AQ2.hole rfl rfl ?_
  refine AQ2.hole rfl rfl ?_
  refine AQ2.hole rfl rfl ?_
  refine AQ2.nil ?_
  repeat' (first | refine AX2.one (n := 3) 1 rfl ?_ | refine AX2.one (n := 2) 3 rfl ?_ | refine AX2.one (n := 1) 4 rfl ?_ | refine AX2.one (n := 0) 5 rfl ?_ | (refine AX2S.mk (i := 1) rfl rfl rfl (AOp.call rfl rfl hO) ?_ (by rintro _ _ ⟨_, _, e, _⟩; cases e); rintro _ _ ⟨bw, w, e, rfl, hw⟩; injection e with e; subst e; dsimp only [sA, sB, sC, sD]) | (refine AX2S.mk (i := 3) rfl rfl rfl (AOp.call rfl rfl hT) ?_ (by rintro _ _ ⟨_, e, _⟩; cases e); rintro _ _ ⟨n, e, rfl, hnf, hnn⟩; injection e with e; subst e; dsimp only [sA, sB, sC, sD]) | (refine AX2S.det (i := 4) rfl rfl rfl (AOp.ev rfl) ?_; dsimp only [sA, sB, sC, sD]) | (refine AX2S.det (i := 5) rfl rfl rfl (AOp.ev rfl) ?_; dsimp only [sA, sB, sC, sD]) | fail)
  all_goals refine AX2.done_keep [2,4,6,8,9] ?_
  refine AW.perm (b := hH bw w n) ?_ (AW.meet [2, 4, 6, 8, 9] ⟨bw, w, n, rfl, rfl, hw, hnf, hnn⟩)
  rw [nown_eq]
  exact List.Perm.trans (by simp only [List.append_nil]; exact .cons _ List.perm_append_comm) (List.Perm.refl _)
 rintro _ _ ⟨bw, w, n, rfl, rfl, hw, hnf, hnn⟩
 repeat' (first | (refine xS 2 4 ?_; refine AL.d (AOp.call rfl rfl (hTu.pure _)) ?_; refine xN 1 ?_) | refine AW.go ?_ | fail)
 refine AW.own_nil 1 ?_
 repeat' (first | refine AW.re 3 1 ?_ | refine AW.go ?_ | fail)
 obtain ⟨TT0, hTT0⟩ : ∃ T, T = strT N s := ⟨_, rfl⟩
 rw [← hTT0] at hw hok ⊢
 have hlen : (((tupL N vars.length L).map ints).length : Int) = L := by rw [lM, tupL_len]
 refine AW.prune [2, 10, 6, 8, 9, 11] (AW.loop (fun mz af h => ∃ (i : Nat) (tb : Option Nat) (tc : Nat) (w1 : WS) (n1 : NT), i ≤ L ∧ mz = L - i ∧ af = [(2, strs vars), (10, .sl ((tupL N vars.length L).map ints)), (6, .slt ((qryL N M f TT0 vars i).map ints) tb tc), (8, .ref bw 0), (9, .ref n.b 0), (11, .int .i64 i)] ∧ h = .tail tb ((qryL N M f TT0 vars i).map ints).length tc 1 :: hH bw w1 n1 ∧ (Same w w1 ∧ n1.b = n.b ∧ n1.f = f ∧ KOk N M TT0 n1)) L ⟨0, none, 0, w, n, Nat.zero_le _, rfl, rfl, rfl, ⟨Same.refl hw.ok, rfl, hnf, hnn _ _ _⟩⟩ ?_)
 rintro mz af h ⟨i, tb, tc, w1, n1, hi, rfl, rfl, rfl, he⟩
 refine AW.seq ?_
 by_cases hlt : i < L
 all_goals obtain ⟨sm, nb, nf, hk⟩ := he
 ·have hx' : ((tupL N vars.length L).map ints)[((i : Nat) : Int).toNat]? = some (ints (tup N vars.length i)) := map_get (tupL_get hlt)
  have htl := tup_len N vars.length i
  have htm : ∀ y ∈ tup N vars.length i, 0 ≤ y ∧ y < N := fun y hy => tup_mem (by have := hv.n1; omega) _ _ y hy
  have hql := qryL_len N M f TT0 vars i
  have hns : w1.ns = [] := sm.ns.trans hw.ns
  have hvs : w1.vs = [] := sm.vs.trans hw.vs
  have hN1 : w1.N = N := sm.N.trans hw.eN
  have hT1 : w1.T = TT0 := sm.T.trans hw.eT
  have hTl : TT0.length = s.Rels.length := by rw [hTT0]; simp [strT]
  have htsl : w1.ts.length = s.Rels.length := by have := congrArg List.length hT1; unfold WS.T at this; rw [lM] at this; omega
  have hb1 : w1.base = s.Rels.length := sm.base.trans hw.eb
  obtain ⟨B, hB⟩ : ∃ B, B = sem N M f TT0 (vars.zip (tup N vars.length i)) := ⟨_, rfl⟩
  have hWi := w_With_ro bw (KOk N M TT0) B n1 w1 vars (tup N vars.length i) sm.ok htl (by rw [hns]; simp; omega) (fun y hy => by rw [hN1]; exact htm y hy) (fun s' h1 h2 h3 h4 h5 h6 => by
   have hT2 : s'.T = TT0 := by unfold WS.T at hT1 ⊢; rw [h4]; exact hT1
   have hV2 : s'.V = vars.zip (tup N vars.length i) := by unfold WS.V; rw [h5, h6, hns, hvs]; rfl
   have := w_Holds bw N M TT0 hM (ndF f) f n1 s' (Nat.le_refl _) nf ⟨h1, h2.trans hN1, by rw [h3, h4, hb1, htsl]; exact Nat.le_refl _, by rw [hT2, h3, hb1, ← hTl]; exact List.take_length, by rw [hT2]; exact hok, by rw [h5, hns]; simp; omega, by rw [h4, htsl]; have := hv.few; omega⟩ hf hsh hg hk
   rw [hT2, hV2, ← hB] at this
   exact this)
  rw [nb] at hWi
  have hc := Tri.ahead hWi [.tail tb ((qryL N M f TT0 vars i).map ints).length tc 1]
  have hq1 : qryL N M f TT0 vars (i + 1) = qryL N M f TT0 vars i ++ if B then [tup N vars.length i] else [] := by rw [hB]; exact qryL_snoc _ _ _ _ _ _
  clear hO hT hTu hWi
  cases B with
  | true =>
   have hmm : (qryL N M f TT0 vars (i + 1)).map ints = (qryL N M f TT0 vars i).map ints ++ [ints (tup N vars.length i)] := by rw [hq1]; simp
   repeat' (first | refine AW.re 4 4 ?_ | (refine xS 6 4 ?_; refine AL.d (iX hx') ?_; refine AL.d AOp.la ?_; refine AL.es 1 ?_; (refine AL.callQ rfl rfl hc rfl ?_ ?_; rotate_left; rintro _ _ ⟨_, ⟨e, _⟩, _⟩; cases e; rintro _ _ ⟨_, ⟨e, s3, n3, rfl, sm3, nb3, nf3, hk3⟩, rfl⟩; injection e with e; subst e) <;> refine AL.nil ?_) | refine AW.jt ?_ | refine AW.jj (fun hb => ?_) (fun hb => ?_) | refine AW.go ?_ | fail)
   all_goals try (exfalso; simp only [dT, dF, lM] at *; omega)
   repeat' (first | (refine xS 7 3 ?_; refine AL.d (iX hx') ?_; refine AL.d AOp.la ?_; refine AL.d (AOp.lit (e := 52) (sz := 1) (by kernel_rfl) rfl rfl rfl (P_one rfl) (by decide)) ?_; refine AL.append (i := 0) (e := 52) (sz := 1) (bytes := 24) rfl rfl rfl rfl (by kernel_rfl) (by kernel_rfl) (by repeat' (exact P_map fun _ => rfl)) (by repeat' (exact P_one rfl)) (ok_all (by repeat' (exact P_one rfl))) (by (try simp only [lA, lM, List.length_take, List.length_drop, List.length_cons, List.length_nil, List.length_replicate]); omega) (by (try simp only [lA, lM, List.length_take, List.length_drop, List.length_cons, List.length_nil, List.length_replicate]); omega) rfl fun b' c' => ?_ <;> refine AL.es 1 ?_ <;> refine AL.nil ?_) | (refine xS 5 1 ?_; refine AL.d AOp.ad ?_; refine xN 1 ?_) | fail)
   exact AW.again_keep (L - (i + 1)) [2, 10, 6, 8, 9, 11] (by omega) ⟨i + 1, b', c', s3, n3, hlt, rfl, by rw [hmm]; rfl, by rw [hmm]; rfl, sm.trans sm3, nb3.trans nb, nf3.trans nf, hk3⟩
  | false =>
   have hmm : qryL N M f TT0 vars (i + 1) = qryL N M f TT0 vars i := by rw [hq1]; simp
   repeat' (first | refine AW.re 4 4 ?_ | (refine xS 6 4 ?_; refine AL.d (iX hx') ?_; refine AL.d AOp.la ?_; refine AL.es 1 ?_; (refine AL.callQ rfl rfl hc rfl ?_ ?_; rotate_left; rintro _ _ ⟨_, ⟨e, _⟩, _⟩; cases e; rintro _ _ ⟨_, ⟨e, s3, n3, rfl, sm3, nb3, nf3, hk3⟩, rfl⟩; injection e with e; subst e) <;> refine AL.nil ?_) | (refine xS 5 1 ?_; refine AL.d AOp.ad ?_; refine xN 1 ?_) | refine AW.jf ?_ | refine AW.jj (fun hb => ?_) (fun hb => ?_) | refine AW.go ?_ | fail)
   all_goals try (exfalso; simp only [dT, dF, lM] at *; omega)
   exact AW.again_keep (L - (i + 1)) [2, 10, 6, 8, 9, 11] (by omega) ⟨i + 1, tb, tc, s3, n3, hlt, rfl, by rw [hmm]; rfl, by rw [hmm]; rfl, sm.trans sm3, nb3.trans nb, nf3.trans nf, hk3⟩
 ·obtain rfl : i = L := by omega
  repeat' (first | refine AW.re 4 4 ?_ | refine AW.jj (fun hb => ?_) (fun hb => ?_) | refine AW.go ?_ | fail)
  all_goals try (exfalso; simp only [dT, dF, lM] at *; omega)
  refine AW.as_sl 6 rfl ?_
  refine AW.drop (ah' := [Own.box bw w1.box]) (.cons _ (.cons _ (.cons_cons _ (List.nil_sublist _)))) ?_
  repeat' (first | (refine AW.dq 8 ?_; refine AQ.es 3 ?_; refine AQ.p rfl (AOp.fr 5) ?_; refine AQ.p rfl (AOp.ll 0) ?_; refine AQ.es 2 ?_; refine AQ.nil ?_) | fail)
  exact AW.drop (List.nil_sublist _) (AW.retv rfl ⟨w1.long, rfl, rfl⟩)
theorem law_FewS (s : GStr) (hs : s.Ok) : Tri Tryz.prog 10 [.sl [s.av]] [] (fun x h => ∃ b, x = .ret (.bool b) ∧ h = []) := by
 obtain ⟨_, hs2, hs3⟩ := hs
 have h0 : ([s.av] : List AV)[((0 : Nat) : Int).toNat]? = some (.st [.int .i64 s.Size, .sl (s.Rels.map GRel.av)]) := rfl
 have h0' : ([s.av] : List AV)[(0 : Int).toNat]? = some (.st [.int .i64 s.Size, .sl (s.Rels.map GRel.av)]) := rfl
 refine Tri.enter 89 Tryz.func10 rfl rfl rfl rfl fun Fr w0 => ?_
 repeat' (first | refine AW.re 0 1 ?_ | refine AW.re 1 2 ?_ | refine AW.re 2 1 ?_ | refine AW.go ?_ | fail)
 refine AW.prune [0, 3, 4, 5] (AW.loop (fun m af h => ∃ (i : Nat) (T e : Int), i ≤ 1 ∧ m = 1 - i ∧ af = [(0, .sl [s.av]), (3, .int .i64 T), (4, .int .i64 e), (5, .int .i64 i)] ∧ h = [] ∧ 0 ≤ T ∧ T ≤ 1500 ∧ 0 ≤ e ∧ e ≤ T * 17592186044416 ∧ (i = 0 → T = 0)) 1 ⟨0, 0, 0, by omega, rfl, rfl, rfl, by omega, by omega, by omega, by omega, fun _ => rfl⟩ ?_)
 rintro m af h ⟨i, T, e, hi, rfl, rfl, rfl, hT0, hT1, he0, he1, hi0⟩
 refine AW.seq ?_
 by_cases hlt : i < 1
 ·obtain rfl : i = 0 := by omega
  repeat' (first | refine AW.re 3 4 ?_ | (refine xS 5 2 ?_; refine AL.d (iX h0) ?_; refine xN 4 ?_) | refine AW.re 6 1 ?_ | refine AW.re 7 1 ?_ | refine AW.jt ?_ | refine AW.jj (fun hb => ?_) (fun hb => ?_) | refine AW.go ?_ | fail)
  all_goals try (exfalso; simp only [dT, dF] at *; simp at *; done)
  ·exact AW.retv rfl ⟨_, rfl, rfl⟩
  have hR : s.Rels.length ≤ 12 := by simp only [dF, lM] at hb; omega
  refine AW.prune [0, 3, 4, 5, 6] (AW.loop (fun m af h => ∃ (k : Nat) (T e : Int), k ≤ s.Rels.length ∧ m = s.Rels.length - k ∧ af = [(0, .sl [s.av]), (3, .int .i64 T), (4, .int .i64 e), (5, .int .i64 0), (6, .int .i64 k)] ∧ h = [] ∧ 0 ≤ T ∧ T ≤ 1500 ∧ 0 ≤ e ∧ e ≤ T * 17592186044416) s.Rels.length ⟨0, T, e, Nat.zero_le _, rfl, rfl, rfl, hT0, hT1, he0, he1⟩ ?_)
  rintro m af h ⟨k, T, e, hk, rfl, rfl, rfl, hT0, hT1, he0, he1⟩
  refine AW.seq ?_
  by_cases hlt2 : k < s.Rels.length
  ·obtain ⟨r, hr⟩ := get_lt hlt2
   have hr' : (s.Rels.map GRel.av)[((k : Nat) : Int).toNat]? = some (.st [.str r.Name, .int .i64 r.Arity, .sl (r.Tuples.map ints)]) := map_get hr
   obtain ⟨_, _, hr3, hr4⟩ := hs3 r (lG hr)
   have hTl : ((r.Tuples.map ints).length : Int) = r.Tuples.length := by simp
   repeat' (first | (refine xS 8 3 ?_; refine AL.d (iX h0) ?_; refine xN 4 ?_) | (refine xS 10 3 ?_; refine AL.d (iX h0) ?_; refine AL.es 3 ?_; refine AL.d (iX hr') ?_; refine AL.es 3 ?_; refine AL.d AOp.ad ?_; refine xN 1 ?_) | (refine xS 11 3 ?_; ((refine AL.gx (fun hb => ?_) (fun hb => ?_) <;> refine AL.es 2 ?_)) <;> (first | (refine AL.gd ?_; (refine AL.d (iX h0) ?_)) | refine AL.gs ?_) <;> refine AL.es 3 ?_ <;> (first | (refine AL.gd ?_; (refine AL.d (iX hr') ?_)) | refine AL.gs ?_) <;> refine AL.es 5 ?_ <;> refine AL.nil ?_) | refine AW.re 12 1 ?_ | refine AW.re 13 1 ?_ | refine AW.jt ?_ | refine AW.jj (fun hb => ?_) (fun hb => ?_) | refine AW.go ?_ | fail)
   all_goals first
    | (exfalso; simp only [dT, dF, lM] at *; omega)
    | exact AW.retv rfl ⟨_, rfl, rfl⟩
    | skip
   have hT2 : T + r.Tuples.length ≤ 1500 := by simp only [dT, dF, lM] at *; omega
   refine AW.prune [0, 3, 4, 5, 6, 7] (AW.loop (fun m af h => ∃ (j : Nat) (e : Int), j ≤ r.Tuples.length ∧ m = r.Tuples.length - j ∧ af = [(0, .sl [s.av]), (3, .int .i64 (T + (r.Tuples.map ints).length)), (4, .int .i64 e), (5, .int .i64 0), (6, .int .i64 k), (7, .int .i64 j)] ∧ h = [] ∧ 0 ≤ e ∧ e ≤ (T + j) * 17592186044416) r.Tuples.length ⟨0, e, Nat.zero_le _, rfl, rfl, rfl, he0, by omega⟩ ?_)
   rintro m af h ⟨j, e, hj, rfl, rfl, rfl, he0, he1⟩
   refine AW.seq ?_
   by_cases hlt3 : j < r.Tuples.length
   ·obtain ⟨t, ht⟩ := get_lt hlt3
    have ht' : (r.Tuples.map ints)[((j : Nat) : Int).toNat]? = some (ints t) := map_get ht
    have htl : ((t.map iav).length : Int) = t.length := by simp
    have htb := (hr4 t (lG ht)).1
    repeat' (first | (refine xS 14 3 ?_; refine AL.d (iX h0) ?_; refine AL.es 3 ?_; refine AL.d (iX hr') ?_; refine xN 4 ?_) | (refine xS 16 3 ?_; refine AL.d (iX h0) ?_; refine AL.es 3 ?_; refine AL.d (iX hr') ?_; refine AL.es 3 ?_; refine AL.d (iX ht') ?_; refine AL.es 2 ?_; refine AL.d AOp.ad ?_; refine xN 1 ?_) | (refine xS 15 1 ?_; refine AL.d AOp.ad ?_; refine xN 1 ?_) | refine AW.jj (fun hb => ?_) (fun hb => ?_) | refine AW.go ?_ | fail)
    all_goals first
     | (exfalso; simp only [dT, dF, lM] at *; omega)
     | exact AW.again_keep (r.Tuples.length - (j + 1)) [0, 3, 4, 5, 6, 7] (by omega) ⟨j + 1, _, hlt3, rfl, rfl, rfl, by omega, by omega⟩
   ·repeat' (first | (refine xS 14 3 ?_; refine AL.d (iX h0) ?_; refine AL.es 3 ?_; refine AL.d (iX hr') ?_; refine xN 4 ?_) | (refine xS 9 1 ?_; refine AL.d AOp.ad ?_; refine xN 1 ?_) | refine AW.jj (fun hb => ?_) (fun hb => ?_) | refine AW.go ?_ | fail)
    all_goals first
     | (exfalso; simp only [dT, dF, lM] at *; omega)
     | exact AW.again_keep (s.Rels.length - (k + 1)) [0, 3, 4, 5, 6] (by omega) ⟨k + 1, _, _, hlt2, rfl, rfl, rfl, by omega, by omega, he0, by rw [hTl]; rw [show j = r.Tuples.length from by omega] at he1; exact he1⟩
  ·repeat' (first | (refine xS 8 3 ?_; refine AL.d (iX h0) ?_; refine xN 4 ?_) | (refine xS 4 1 ?_; refine AL.d AOp.ad ?_; refine xN 1 ?_) | refine AW.jj (fun hb => ?_) (fun hb => ?_) | refine AW.go ?_ | fail)
   all_goals first
    | (exfalso; simp only [dT, dF, lM] at *; omega)
    | exact AW.again_keep 0 [0, 3, 4, 5] (by omega) ⟨1, T, e, by omega, rfl, rfl, rfl, hT0, hT1, he0, he1, by omega⟩
 ·repeat' (first | refine AW.re 3 4 ?_ | refine AW.re 17 3 ?_ | refine AW.jj (fun hb => ?_) (fun hb => ?_) | refine AW.go ?_ | fail)
  all_goals first
   | (exfalso; simp only [dT, dF, List.length_cons, List.length_nil] at *; omega)
   | exact AW.retv rfl ⟨_, rfl, rfl⟩
   | exact AW.donev rfl ⟨_, rfl, rfl⟩
def fitA (s : GStr) (a : GSym) : Bool := match s.Rels.find? (fun q => decide (q.Name = a.Name)) with | some r => decide (r.Arity = a.Arity) | none => false
def fitsB (s : GStr) (l : List GSym) : Bool := l.all (fitA s)
def findN (s : GStr) (n : ByteArray) : Int := idxFrom (fun q : GRel => decide (q.Name = n)) s.Rels 0
theorem findN_spec (s : GStr) (n : ByteArray) : (findN s n = -1 ∧ s.Rels.find? (fun q => decide (q.Name = n)) = none) ∨ ∃ (k : Nat) (r : GRel), findN s n = (k : Int) ∧ s.Rels[k]? = some r ∧ s.Rels.find? (fun q => decide (q.Name = n)) = some r := by
 have key : ∀ (l : List GRel) (i : Nat), (idxFrom (fun q : GRel => decide (q.Name = n)) l i = -1 ∧ l.find? (fun q => decide (q.Name = n)) = none) ∨ ∃ (k : Nat) (r : GRel), idxFrom (fun q : GRel => decide (q.Name = n)) l i = ((i + k : Nat) : Int) ∧ l[k]? = some r ∧ l.find? (fun q => decide (q.Name = n)) = some r := by
  intro l
  induction l with
  | nil => intro i; exact .inl ⟨rfl, rfl⟩
  | cons x l ih =>
   intro i
   rw [idxFrom]
   by_cases hx : x.Name = n
   ·rw [if_pos (by simpa using hx)]
    exact .inr ⟨0, x, rfl, rfl, by simp [hx]⟩
   ·rw [if_neg (by simpa using hx)]
    rcases ih (i + 1) with ⟨h1, h2⟩ | ⟨k, r, h1, h2, h3⟩
    ·exact .inl ⟨h1, by simp [hx, h2]⟩
    ·exact .inr ⟨k + 1, r, by rw [h1]; congr 1; omega, by simpa using h2, by simp [hx, h3]⟩
 rcases key s.Rels 0 with h | ⟨k, r, h1, h2⟩
 ·exact .inl h
 ·exact .inr ⟨k, r, by unfold findN; rw [h1, Nat.zero_add], h2⟩
theorem ref_FindS (s : GStr) (hs : s.Ok) (n : ByteArray) : Tri Tryz.prog 153 [s.av, .str n] [] (D (.int .i64 (findN s n)) []) := by
 have hl : s.Rels.length ≤ 4611686018427387904 := by have := hs.2.1; omega
 refine Tri.enter 22 Tryz.func153 rfl rfl rfl rfl fun Fr w0 => ?_
 repeat' (first | (refine AW.r 0 ?_; refine AL.d (AOp.box_ro rfl rfl) ?_; refine xN 1 ?_) | refine AW.re 1 1 ?_ | refine AW.go ?_ | fail)
 refine AW.prune [1, 2, 5] (AW.loop (fun mz af h => ∃ (i : Nat), i ≤ s.Rels.length ∧ mz = s.Rels.length - i ∧ af = [(1, .str n), (2, .at s.av), (5, .int .i64 i)] ∧ h = [] ∧ findN s n = idxFrom (fun q : GRel => decide (q.Name = n)) (s.Rels.drop i) i) s.Rels.length ⟨0, Nat.zero_le _, rfl, rfl, rfl, rfl⟩ ?_)
 rintro mz af h ⟨i, hi, rfl, rfl, rfl, he⟩
 refine AW.seq ?_
 by_cases hlt : i < s.Rels.length
 ·obtain ⟨x, hx⟩ := get_lt hlt
  have hx' : (s.Rels.map GRel.av)[((i : Nat) : Int).toNat]? = some x.av := map_get hx
  rw [drop_cons hx, idxFrom] at he
  repeat' (first | refine AW.re 2 5 ?_ | (refine xS 4 3 ?_; refine AL.d (iX hx') ?_; refine xN 4 ?_) | refine AW.re 5 2 ?_ | (refine xS 3 1 ?_; refine AL.d AOp.ad ?_; refine xN 1 ?_) | refine AW.jj (fun hb => ?_) (fun hb => ?_) | refine AW.go ?_ | fail)
  all_goals try (exfalso; simp only [dT, dF, lM] at *; omega)
  all_goals rw [toList_beq] at hb
  ·rw [if_pos (by simpa using hb)] at he
   exact AW.retv rfl ⟨by rw [he], rfl⟩
  ·rw [if_neg (by simpa using hb)] at he
   exact AW.again_keep (s.Rels.length - (i + 1)) [1, 2, 5] (by omega) ⟨i + 1, hlt, rfl, rfl, rfl, he⟩
 ·rw [List.drop_eq_nil_of_le (by omega), idxFrom] at he
  repeat' (first | refine AW.re 2 5 ?_ | refine AW.re 6 1 ?_ | refine AW.jj (fun hb => ?_) (fun hb => ?_) | refine AW.go ?_ | fail)
  all_goals try (exfalso; simp only [dT, dF, lM] at *; omega)
  exact AW.retv rfl ⟨by rw [he]; rfl, rfl⟩
theorem ref_Fits (s : GStr) (hs : s.Ok) (l : List GSym) (hll : l.length ≤ 4611686018427387904) : Tri Tryz.prog 110 [s.av, .sl (l.map GSym.av)] [] (D (.bool (fitsB s l)) []) := by
 refine Tri.enter 36 Tryz.func110 rfl rfl rfl rfl fun Fr w0 => ?_
 repeat' (first | (refine AW.r 0 ?_; refine AL.d (AOp.box_ro rfl rfl) ?_; refine xN 1 ?_) | refine AW.re 1 1 ?_ | refine AW.go ?_ | fail)
 refine AW.prune [1, 2, 5] (AW.loop (fun mz af h => ∃ (i : Nat), i ≤ l.length ∧ mz = l.length - i ∧ af = [(1, .sl (l.map GSym.av)), (2, .at s.av), (5, .int .i64 i)] ∧ h = [] ∧ fitsB s l = fitsB s (l.drop i)) l.length ⟨0, Nat.zero_le _, rfl, rfl, rfl, rfl⟩ ?_)
 rintro mz af h ⟨i, hi, rfl, rfl, rfl, he⟩
 refine AW.seq ?_
 by_cases hlt : i < l.length
 ·obtain ⟨x, hx⟩ := get_lt hlt
  have hx' : (l.map GSym.av)[((i : Nat) : Int).toNat]? = some x.av := map_get hx
  have hF := ref_FindS s hs x.Name
  rw [drop_cons hx, fitsB, fitsB, List.all_cons, fitA] at he
  rcases findN_spec s x.Name with ⟨e1, e2⟩ | ⟨k, r, e1, e2, e3⟩
  ·rw [e1] at hF
   rw [e2] at he
   repeat' (first | refine AW.re 2 4 ?_ | (refine AW.dq 4 ?_; refine AQ.es 3 ?_; refine AQ.p rfl (iX hx') ?_; refine AQ.es 2 ?_; refine AQ.p rfl (AOp.call rfl rfl hF) ?_; refine AQ.es 1 ?_; refine AQ.nil ?_) | (refine AW.dq 5 ?_; refine AQ.es 3 ?_; refine AQ.es 3 ?_; refine AQ.k ?_; refine AQ.es 4 ?_; refine AQ.k ?_; refine AQ.es 4 ?_; refine AQ.nil ?_) | refine AW.re 6 1 ?_ | refine AW.jt ?_ | refine AW.jj (fun hb => ?_) (fun hb => ?_) | refine AW.go ?_ | fail)
   all_goals try (exfalso; simp only [dT, dF, lM] at *; omega)
   exact AW.retv rfl ⟨by rw [fitsB, he]; rfl, rfl⟩
  ·rw [e1] at hF
   rw [e3] at he
   change l.all (fitA s) = (decide (r.Arity = x.Arity) && (l.drop (i + 1)).all (fitA s)) at he
   have hr' : (s.Rels.map GRel.av)[((k : Nat) : Int).toNat]? = some r.av := map_get e2
   repeat' (first | refine AW.re 2 4 ?_ | refine AW.jj (fun hb => ?_) (fun hb => ?_) | refine AW.go ?_ | fail)
   all_goals try (exfalso; simp only [dT, dF, lM] at *; omega)
   repeat' (first | (refine AW.dq 4 ?_; refine AQ.es 3 ?_; refine AQ.p rfl (iX hx') ?_; refine AQ.es 2 ?_; refine AQ.p rfl (AOp.call rfl rfl hF) ?_; refine AQ.es 1 ?_; refine AQ.nil ?_) | (refine AW.dq 5 ?_; refine AQ.es 3 ?_; refine AQ.es 3 ?_; refine AQ.gp rfl (iX hr') ?_; refine AQ.es 4 ?_; refine AQ.gp rfl (iX hx') ?_; refine AQ.es 4 ?_; refine AQ.nil ?_) | refine AW.re 6 1 ?_ | (refine xS 3 1 ?_; refine AL.d AOp.ad ?_; refine xN 1 ?_) | refine AW.jj (fun hb => ?_) (fun hb => ?_) | fail)
   all_goals try (exfalso; simp only [dT, dF, lM] at *; omega)
   all_goals simp only [bne_iff_ne, ne_eq, bne_eq_false_iff_eq] at hb
   ·exact AW.retv rfl ⟨by rw [fitsB, he, decide_eq_false hb]; rfl, rfl⟩
   ·refine AW.again_keep (l.length - (i + 1)) [1, 2, 5] (by omega) ⟨i + 1, hlt, rfl, rfl, rfl, ?_⟩
    rw [fitsB, he, decide_eq_true hb]; rfl
 ·rw [List.drop_eq_nil_of_le (by omega)] at he
  repeat' (first | refine AW.re 2 4 ?_ | refine AW.re 7 1 ?_ | refine AW.jj (fun hb => ?_) (fun hb => ?_) | refine AW.go ?_ | fail)
  all_goals try (exfalso; simp only [dT, dF, lM] at *; omega)
  exact AW.retv rfl ⟨by rw [he]; rfl, rfl⟩
theorem ref_Equal (a b : List Int) (ha : a.length ≤ 4611686018427387904) (hb : b.length ≤ 4611686018427387904) : Tri Tryz.prog 68 [ints a, ints b] [] (D (.bool (decide (a = b))) []) := by
 by_cases hl : a.length = b.length
 ·refine Tri.enter 26 Tryz.func68 rfl rfl rfl rfl fun Fr w0 => ?_
  repeat' (first | refine AW.re 0 1 ?_ | refine AW.re 1 5 ?_ | refine AW.re 2 1 ?_ | refine AW.re 3 1 ?_ | refine AW.jj (fun hb => ?_) (fun hb => ?_) | refine AW.go ?_ | fail)
  ·exfalso; simp [hl] at hb
  rename_i hb1
  refine AW.prune [0, 1, 5] (AW.loop (fun m af h => ∃ i : Nat, i ≤ a.length ∧ m = a.length - i ∧ af = [(0, ints a), (1, ints b), (5, .int .i64 i)] ∧ h = [] ∧ (a = b ↔ a.drop i = b.drop i)) a.length ⟨0, Nat.zero_le _, rfl, rfl, rfl, Iff.rfl⟩ ?_)
  rintro m af h ⟨i, hi, rfl, rfl, rfl, he⟩
  refine AW.seq ?_
  by_cases hlt : i < a.length
  ·obtain ⟨x, hx⟩ := get_lt hlt
   obtain ⟨y, hy⟩ := get_lt (hl ▸ hlt)
   have hx' : (a.map iav)[((i : Nat) : Int).toNat]? = some (iav x) := map_get hx
   have hy' : (b.map iav)[((i : Nat) : Int).toNat]? = some (iav y) := map_get hy
   rw [drop_cons hx, drop_cons hy, List.cons.injEq] at he
   repeat' (first | refine AW.re 4 4 ?_ | (refine AW.dq 6 ?_; refine AQ.es 2 ?_; refine AQ.p rfl (iX hx') ?_; refine AQ.es 3 ?_; refine AQ.p rfl (iX hy') ?_; refine AQ.es 2 ?_; refine AQ.nil ?_) | refine AW.re 7 1 ?_ | (refine xS 5 1 ?_; refine AL.d AOp.ad ?_; refine xN 1 ?_) | refine AW.re 8 1 ?_ | refine AW.jj (fun hb => ?_) (fun hb => ?_) | fail)
   all_goals first
    | (exfalso; simp only [dT, dF, lM] at *; omega)
    | (refine AW.retv rfl ⟨?_, rfl⟩; have hne : x ≠ y := (by simpa using hb); simp [he, hne, ofConst]; done)
    | (refine AW.again_keep (a.length - (i + 1)) [0, 1, 5] (by omega) ⟨i + 1, hlt, rfl, rfl, rfl, ?_⟩; have hne : x = y := (by simpa using hb); simp [he, hne]; done)
  ·repeat' (first | refine AW.re 4 4 ?_ | refine AW.re 8 1 ?_ | refine AW.jj (fun hb => ?_) (fun hb => ?_) | refine AW.go ?_ | fail)
   all_goals first
    | (exfalso; simp only [dT, dF, lM] at *; omega)
    | (refine AW.retv rfl ⟨?_, rfl⟩; rw [List.drop_eq_nil_of_le (by omega), List.drop_eq_nil_of_le (by omega)] at he; simp [he, ofConst]; done)
 ·have hne : a ≠ b := fun h => hl (by rw [h])
  refine Tri.enter 26 Tryz.func68 rfl rfl rfl rfl fun Fr w0 => ?_
  repeat' (first | refine AW.re 0 1 ?_ | refine AW.re 1 5 ?_ | refine AW.re 2 1 ?_ | refine AW.re 3 1 ?_ | refine AW.jj (fun hb => ?_) (fun hb => ?_) | refine AW.go ?_ | fail)
  ·exact AW.retv rfl ⟨by simp [hne, ofConst], rfl⟩
  ·exfalso; simp at hb; omega
theorem ref_SameT (l : List (List Int)) (hl : l.length ≤ 100000) (hm : ∀ t ∈ l, t.length ≤ 100000) : Tri Tryz.prog 39 [.sl (l.map ints), .sl (l.map ints)] [] (D (.bool true) []) := by
 refine Tri.enter 27 Tryz.func39 rfl rfl rfl rfl fun Fr w0 => ?_
 repeat' (first | refine AW.re 0 1 ?_ | refine AW.re 1 5 ?_ | refine AW.re 2 1 ?_ | refine AW.re 3 1 ?_ | refine AW.jj (fun hb => ?_) (fun hb => ?_) | refine AW.go ?_ | fail)
 ·exfalso; simp at hb
 refine AW.prune [0, 1, 5] (AW.loop (fun mz af h => ∃ (i : Nat), i ≤ l.length ∧ mz = l.length - i ∧ af = [(0, .sl (l.map ints)), (1, .sl (l.map ints)), (5, .int .i64 i)] ∧ h = [] ∧ True) l.length ⟨0, Nat.zero_le _, rfl, rfl, rfl, trivial⟩ ?_)
 rintro mz af h ⟨i, hi, rfl, rfl, rfl, he⟩
 refine AW.seq ?_
 by_cases hlt : i < l.length
 ·obtain ⟨x, hx⟩ := get_lt hlt
  have hx' : (l.map ints)[((i : Nat) : Int).toNat]? = some (ints x) := map_get hx
  have hxl := hm x (lG hx)
  have hE := ref_Equal x x (by omega) (by omega)
  rw [decide_eq_true rfl] at hE
  repeat' (first | refine AW.re 4 4 ?_ | (refine AW.dq 6 ?_; refine AQ.es 2 ?_; refine AQ.p rfl (iX hx') ?_; refine AQ.es 3 ?_; refine AQ.p rfl (iX hx') ?_; refine AQ.es 1 ?_; refine AQ.p rfl (AOp.call rfl rfl hE) ?_; refine AQ.es 1 ?_; refine AQ.nil ?_) | (refine xS 5 1 ?_; refine AL.d AOp.ad ?_; refine xN 1 ?_) | refine AW.jf ?_ | refine AW.jj (fun hb => ?_) (fun hb => ?_) | refine AW.go ?_ | fail)
  all_goals try (exfalso; simp only [dT, dF, lM] at *; omega)
  refine AW.again_keep (l.length - (i + 1)) [0, 1, 5] (by omega) ⟨i + 1, hlt, rfl, rfl, rfl, ?_⟩
  trivial
 ·repeat' (first | refine AW.re 4 4 ?_ | refine AW.re 8 1 ?_ | refine AW.jj (fun hb => ?_) (fun hb => ?_) | refine AW.go ?_ | fail)
  all_goals try (exfalso; simp only [dT, dF, lM] at *; omega)
  exact AW.retv rfl ⟨rfl, rfl⟩
def capI (n : Int) : Int := min n 1099511627776
def timesI (a b : Int) : Int := if 0 < a ∧ 1099511627776 / a < b then 1099511627776 else capI (a * b)
def powI (n : Int) : Nat → Int → Int
 | 0, p => p
 | k + 1, p => powI n k (timesI p n)
def cB (n : Int) : Prop := 0 ≤ n ∧ n ≤ 1099511627776
theorem capI_B {n : Int} (h : 0 ≤ n) : cB (capI n) := by unfold capI cB; omega
theorem mul_le_of_div {a b : Int} (h0 : 0 < a) (hb : 0 ≤ b) (h : ¬ 1099511627776 / a < b) : a * b ≤ 1099511627776 := by
 have h1 : b ≤ 1099511627776 / a := by omega
 have h2 := Int.mul_le_mul_of_nonneg_left h1 (show 0 ≤ a by omega)
 have h3 := Int.mul_ediv_self_le (x := 1099511627776) (k := a) (by omega)
 omega
theorem timesI_B {a b : Int} (ha : cB a) (hb : cB b) : cB (timesI a b) := by
 unfold timesI
 split
 ·exact ⟨by omega, by omega⟩
 ·exact capI_B (Int.mul_nonneg ha.1 hb.1)
theorem powI_B {n : Int} (hn : cB n) : ∀ (k : Nat) (p : Int), cB p → cB (powI n k p)
 | 0, p, h => h
 | k + 1, p, h => powI_B hn k _ (timesI_B h hn)
def costK (N k : Int) (v : Nat) (ar : Int) (c : Int) : Int :=
 if k = 6 ∨ k = 7 ∨ k = 10 then timesI (powI N v 1) c
 else if k = 8 then timesI (timesI (powI N v 1) (powI N v 1)) c
 else if k = 9 then timesI (timesI 64 (powI N v 1)) c
 else if k = 11 then timesI (powI 2 (min (powI N ar.toNat 1) 50).toNat 1) c
 else c
mutual
def costF (N : Int) : GFml → Int
 | ⟨k, ar, nm, vars, args, kids⟩ => capI (1 + costK N k vars.length ar (costL N kids 0))
def costL (N : Int) : List GFml → Int → Int
 | [], c => c
 | x :: l, c => costL N l (capI (c + costF N x))
end
theorem costK_B {N k ar c : Int} {v : Nat} (hN : cB N) (hc : cB c) : cB (costK N k v ar c) := by
 have hp : ∀ n k, cB n → cB (powI n k 1) := fun n k h => powI_B h k 1 ⟨by omega, by omega⟩
 unfold costK
 split
 ·exact timesI_B (hp _ _ hN) hc
 ·split
  ·exact timesI_B (timesI_B (hp _ _ hN) (hp _ _ hN)) hc
  ·split
   ·exact timesI_B (timesI_B ⟨by omega, by omega⟩ (hp _ _ hN)) hc
   ·split
    ·exact timesI_B (hp _ _ ⟨by omega, by omega⟩) hc
    ·exact hc
mutual
theorem costF_B {N : Int} (hN : cB N) : ∀ f : GFml, cB (costF N f)
 | ⟨k, ar, nm, vars, args, kids⟩ => by
  rw [costF]
  have := costK_B (k := k) (ar := ar) (v := vars.length) hN (costL_B hN kids 0 ⟨by omega, by omega⟩)
  exact capI_B (by have := this.1; omega)
theorem costL_B {N : Int} (hN : cB N) : ∀ (l : List GFml) (c : Int), cB c → cB (costL N l c)
 | [], c, h => by rw [costL]; exact h
 | x :: l, c, h => by
  rw [costL]
  have := costF_B hN x
  exact costL_B hN l _ (capI_B (by have := this.1; have := h.1; omega))
end
theorem ref_capped (n : Int) : Tri Tryz.prog 113 [.int .i64 n] [] (D (.int .i64 (capI n)) []) := by
 refine Tri.enter 5 Tryz.func113 rfl rfl rfl rfl fun Fr w0 => ?_
 repeat' (first | refine AW.re 0 1 ?_ | (refine xS 1 1 ?_; refine AL.d (AOp.min2 rfl rfl) ?_; refine xN 1 ?_) | fail)
 exact AW.retv rfl ⟨rfl, rfl⟩
theorem ref_times (a b : Int) (ha : cB a) (hb : cB b) : Tri Tryz.prog 115 [.int .i64 a, .int .i64 b] [] (D (.int .i64 (timesI a b)) []) := by
 have hC := ref_capped (a * b)
 obtain ⟨a0, a1⟩ := ha
 obtain ⟨b0, b1⟩ := hb
 by_cases hz : 0 < a
 ·by_cases hq : 1099511627776 / a < b
  ·have hv : timesI a b = 1099511627776 := by unfold timesI; rw [if_pos ⟨hz, hq⟩]
   rw [hv]
   refine Tri.enter 17 Tryz.func115 rfl rfl rfl rfl fun Fr w0 => ?_
   repeat' (first | refine AW.re 0 1 ?_ | (refine xS 1 3 ?_; ((refine AL.gx (fun hb => ?_) (fun hb => ?_) <;> refine AL.es 2 ?_)) <;> (first | (refine AL.gd ?_; refine AL.d (AOp.quo rfl rfl (by omega) hz) ?_) | refine AL.gs ?_) <;> refine AL.es 2 ?_ <;> refine AL.nil ?_) | refine AW.re 2 1 ?_ | refine AW.jf ?_ | refine AW.jj (fun hb => ?_) (fun hb => ?_) | refine AW.go ?_ | fail)
   all_goals try (exfalso; simp only [dT, dF, lM] at *; omega)
   exact AW.retv rfl ⟨rfl, rfl⟩
  ·have hv : timesI a b = capI (a * b) := by unfold timesI; rw [if_neg fun h => hq h.2]
   have hm := mul_le_of_div hz b0 hq
   have hm0 := Int.mul_nonneg a0 b0
   rw [hv]
   refine Tri.enter 17 Tryz.func115 rfl rfl rfl rfl fun Fr w0 => ?_
   repeat' (first | refine AW.re 0 1 ?_ | (refine xS 1 3 ?_; ((refine AL.gx (fun hb => ?_) (fun hb => ?_) <;> refine AL.es 2 ?_)) <;> (first | (refine AL.gd ?_; (refine AL.d (AOp.quo rfl rfl (by omega) hz) ?_)) | refine AL.gs ?_) <;> refine AL.es 2 ?_ <;> refine AL.nil ?_) | (refine xS 3 2 ?_; refine AL.d (AOp.mul rfl rfl (by omega)) ?_; refine AL.d (AOp.call rfl rfl hC) ?_; refine xN 1 ?_) | refine AW.jf ?_ | refine AW.jj (fun hb => ?_) (fun hb => ?_) | refine AW.go ?_ | fail)
   all_goals try (exfalso; simp only [dT, dF, lM] at *; omega)
   exact AW.retv rfl ⟨rfl, rfl⟩
 ·obtain rfl : a = 0 := by omega
  have hv : timesI 0 b = capI (0 * b) := by unfold timesI; rw [if_neg fun h => hz h.1]
  rw [hv]
  refine Tri.enter 17 Tryz.func115 rfl rfl rfl rfl fun Fr w0 => ?_
  repeat' (first | refine AW.re 0 1 ?_ | refine AW.go ?_ | fail)
  all_goals try (exfalso; simp only [dT, dF, lM] at *; omega)
  repeat' (first | (refine xS 1 3 ?_; refine AL.es 2 ?_; refine AL.gs ?_; refine xN 2 ?_) | (refine xS 3 2 ?_; refine AL.d (AOp.mul rfl rfl (by omega)) ?_; refine AL.d (AOp.call rfl rfl hC) ?_; refine xN 1 ?_) | refine AW.jf ?_ | fail)
  exact AW.retv rfl ⟨rfl, rfl⟩
theorem ref_power03 (n : Int) (hn : cB n) (k : Nat) (hk : k ≤ 100000) : Tri Tryz.prog 114 [.int .i64 n, .int .i64 k] [] (D (.int .i64 (powI n k 1)) []) := by
 refine Tri.enter 16 Tryz.func114 rfl rfl rfl rfl fun Fr w0 => ?_
 repeat' (first | refine AW.re 0 1 ?_ | refine AW.re 1 1 ?_ | refine AW.re 2 1 ?_ | refine AW.go ?_ | fail)
 refine AW.prune [0, 1, 5, 6] (AW.loop (fun mz af h => ∃ (i : Nat) (p : Int), i ≤ k ∧ mz = k - i ∧ af = [(0, .int .i64 n), (1, .int .i64 k), (5, .int .i64 p), (6, .int .i64 i)] ∧ h = [] ∧ (cB p ∧ powI n k 1 = powI n (k - i) p)) k ⟨0, 1, Nat.zero_le _, rfl, rfl, rfl, ⟨⟨by omega, by omega⟩, rfl⟩⟩ ?_)
 rintro mz af h ⟨i, p, hi, rfl, rfl, rfl, he⟩
 refine AW.seq ?_
 by_cases hlt : i < k
 all_goals obtain ⟨hp, he⟩ := he
 ·rw [show k - i = (k - (i + 1)) + 1 by omega, powI] at he
  have hT := ref_times p n hp hn
  repeat' (first | refine AW.re 3 3 ?_ | (refine xS 5 2 ?_; refine AL.d (AOp.call rfl rfl hT) ?_; refine xN 1 ?_) | (refine xS 4 1 ?_; refine AL.d AOp.ad ?_; refine xN 1 ?_) | refine AW.jj (fun hb => ?_) (fun hb => ?_) | refine AW.go ?_ | fail)
  all_goals try (exfalso; simp only [dT, dF, lM] at *; omega)
  exact AW.again_keep (k - (i + 1)) [0, 1, 5, 6] (by omega) ⟨i + 1, _, hlt, rfl, rfl, rfl, timesI_B hp hn, he⟩
 ·rw [show k - i = 0 by omega, powI] at he
  repeat' (first | refine AW.re 3 3 ?_ | refine AW.re 6 2 ?_ | refine AW.jj (fun hb => ?_) (fun hb => ?_) | refine AW.go ?_ | fail)
  all_goals try (exfalso; simp only [dT, dF, lM] at *; omega)
  exact AW.retv rfl ⟨by rw [he], rfl⟩
theorem ref_Cost (N : Int) (hN : cB N) : ∀ (d : Nat) (f : GFml), ndF f ≤ d → f.Ok → shsF f = true → ndF f ≤ 100000 → Tri Tryz.prog 66 [f.st, .int .i64 N] [] (D (.int .i64 (costF N f)) []) := by
 intro d
 induction d with
 | zero => intro f hD; have := ndF_eq f; omega
 | succ d ih =>
  intro f hD hok hsh hnd
  have hnd' := ndF_eq f
  have hsp : shapedP f = true := by rw [shsF_eq, bA] at hsh; exact hsh.2
  have hvl := shaped_vars hsp
  have har := shaped_ar hsp
  obtain ⟨hko⟩ := hok
  rename_i hko1 hko2
  have hkx : ∀ x ∈ f.Kids, x.Ok ∧ shsF x = true ∧ ndF x ≤ d ∧ ndF x ≤ 100000 := fun x hx => by
   have := ndFs_mem hx
   exact ⟨hko2 x hx, shsFs_mem (shsF_kids hsh) hx, by omega, by omega⟩
  have hkl := ndFs_len f.Kids
  have hpV := ref_power03 N hN f.Vars.length (by omega)
  have hpA := ref_power03 N hN f.Arity.toNat (by omega)
  have hpB : cB (powI N f.Vars.length 1) := powI_B hN _ _ ⟨by omega, by omega⟩
  have hpB2 : cB (powI N f.Arity.toNat 1) := powI_B hN _ _ ⟨by omega, by omega⟩
  obtain ⟨k, ar, nm, vars, args, kids⟩ := f
  simp only [] at hkx hkl hnd' hvl har hpV hpA hpB hpB2
  have hF : costF N ⟨k, ar, nm, vars, args, kids⟩ = capI (1 + costK N k vars.length ar (costL N kids 0)) := by rw [costF]
  have hvlen : ((vars.map AV.str).length : Int) = vars.length := by simp
  have hart : ((ar.toNat : Nat) : Int) = ar := by omega
  rw [hF]
  rw [← hvlen] at hpV
  rw [hart] at hpA
  unfold costK
  generalize powI N vars.length 1 = all at *
  refine Tri.enter 65 Tryz.func66 rfl rfl rfl rfl fun Fr w0 => ?_
  repeat' (first | (refine AW.r 0 ?_; refine AL.d (AOp.box_ro rfl rfl) ?_; refine xN 1 ?_) | refine AW.re 1 1 ?_ | refine AW.re 2 1 ?_ | refine AW.go ?_ | fail)
  refine AW.prune [1, 2, 5, 6] (AW.loop (fun mz af h => ∃ (i : Nat) (c : Int), i ≤ kids.length ∧ mz = kids.length - i ∧ af = [(1, .int .i64 N), (2, .at (⟨k, ar, nm, vars, args, kids⟩ : GFml).st), (5, .int .i64 c), (6, .int .i64 i)] ∧ h = [] ∧ (cB c ∧ costL N kids 0 = costL N (kids.drop i) c)) kids.length ⟨0, 0, Nat.zero_le _, rfl, rfl, rfl, ⟨⟨by omega, by omega⟩, rfl⟩⟩ ?_)
  rintro mz af h ⟨i, c, hi, rfl, rfl, rfl, he⟩
  refine AW.seq ?_
  by_cases hlt : i < kids.length
  all_goals obtain ⟨hc, he⟩ := he
  ·obtain ⟨x, hx⟩ := get_lt hlt
   have hx' : (kids.map GFml.av)[((i : Nat) : Int).toNat]? = some x.st := by rw [← GFml.av_eq]; exact map_get hx
   obtain ⟨q1, q2, q3, q4⟩ := hkx x (lG hx)
   have hC := ih x q3 q1 q2 q4
   have hCB := costF_B hN x
   have hP := ref_capped (c + costF N x)
   rw [drop_cons hx, costL] at he
   generalize costF N x = cx at *
   obtain ⟨c0, c1⟩ := hc
   obtain ⟨x0, x1⟩ := hCB
   repeat' (first | refine AW.re 3 5 ?_ | refine AW.jj (fun hb => ?_) (fun hb => ?_) | refine AW.go ?_ | fail)
   all_goals try (exfalso; simp only [dT, dF, lM] at *; omega)
   repeat' (first | (refine xS 5 4 ?_; refine AL.d (iX hx') ?_; refine AL.es 2 ?_; refine AL.d (AOp.call rfl rfl hC) ?_; refine AL.d AOp.ad ?_; refine AL.d (AOp.call rfl rfl hP) ?_; refine xN 1 ?_) | (refine xS 4 1 ?_; refine AL.d AOp.ad ?_; refine xN 1 ?_) | fail)
   exact AW.again_keep (kids.length - (i + 1)) [1, 2, 5, 6] (by omega) ⟨i + 1, _, hlt, rfl, rfl, rfl, capI_B (by omega), he⟩
  ·rw [List.drop_eq_nil_of_le (by omega), costL] at he
   rw [he]
   clear he ih hkx
   repeat' (first | refine AW.re 3 5 ?_ | refine AW.jj (fun hb => ?_) (fun hb => ?_) | refine AW.go ?_ | fail)
   all_goals try (exfalso; simp only [dT, dF, lM] at *; omega)
   have t1 := ref_times all c hpB hc
   have t2 := ref_times all all hpB hpB
   have t3 := ref_times (timesI all all) c (timesI_B hpB hpB) hc
   have t4 := ref_times 64 all ⟨by omega, by omega⟩ hpB
   have t5 := ref_times (timesI 64 all) c (timesI_B ⟨by omega, by omega⟩ hpB) hc
   by_cases h6 : k = 6 ∨ k = 7 ∨ k = 10
   ·rw [if_pos h6]
    have hP := ref_capped (1 + timesI all c)
    have hb := timesI_B hpB hc
    unfold cB at *
    repeat' (first | (refine xS 6 4 ?_; refine AL.d (AOp.call rfl rfl hpV) ?_; refine xN 1 ?_) | refine AW.go ?_ | fail)
    rcases h6 with rfl | rfl | rfl
    ·repeat' (first | refine AW.re 7 2 ?_ | refine AW.re 8 2 ?_ | (refine xS 11 2 ?_; refine AL.d (AOp.call rfl rfl t1) ?_; refine xN 1 ?_) | (refine xS 18 1 ?_; refine AL.d AOp.ad ?_; refine AL.d (AOp.call rfl rfl hP) ?_; refine xN 1 ?_) | refine AW.jt ?_ | fail)
     exact AW.retv rfl ⟨rfl, rfl⟩
    ·repeat' (first | refine AW.re 7 2 ?_ | refine AW.re 8 2 ?_ | refine AW.re 9 2 ?_ | (refine xS 11 2 ?_; refine AL.d (AOp.call rfl rfl t1) ?_; refine xN 1 ?_) | (refine xS 18 1 ?_; refine AL.d AOp.ad ?_; refine AL.d (AOp.call rfl rfl hP) ?_; refine xN 1 ?_) | refine AW.jt ?_ | refine AW.jf ?_ | fail)
     exact AW.retv rfl ⟨rfl, rfl⟩
    ·repeat' (first | refine AW.re 7 2 ?_ | refine AW.re 8 2 ?_ | refine AW.re 9 2 ?_ | refine AW.re 10 2 ?_ | (refine xS 11 2 ?_; refine AL.d (AOp.call rfl rfl t1) ?_; refine xN 1 ?_) | (refine xS 18 1 ?_; refine AL.d AOp.ad ?_; refine AL.d (AOp.call rfl rfl hP) ?_; refine xN 1 ?_) | refine AW.jt ?_ | refine AW.jf ?_ | fail)
     exact AW.retv rfl ⟨rfl, rfl⟩
   ·rw [if_neg h6]
    by_cases h8 : k = 8
    ·subst h8
     rw [if_pos rfl]
     have hP := ref_capped (1 + timesI (timesI all all) c)
     have hb := timesI_B (timesI_B hpB hpB) hc
     unfold cB at *
     repeat' (first | (refine xS 6 4 ?_; refine AL.d (AOp.call rfl rfl hpV) ?_; refine xN 1 ?_) | refine AW.go ?_ | fail)
     repeat' (first | refine AW.re 7 2 ?_ | refine AW.re 8 2 ?_ | refine AW.re 9 2 ?_ | refine AW.re 10 2 ?_ | refine AW.re 12 2 ?_ | (refine xS 13 2 ?_; refine AL.d (AOp.call rfl rfl t2) ?_; refine AL.es 1 ?_; refine AL.d (AOp.call rfl rfl t3) ?_; refine xN 1 ?_) | (refine xS 18 1 ?_; refine AL.d AOp.ad ?_; refine AL.d (AOp.call rfl rfl hP) ?_; refine xN 1 ?_) | refine AW.jt ?_ | refine AW.jf ?_ | fail)
     exact AW.retv rfl ⟨rfl, rfl⟩
    ·rw [if_neg h8]
     by_cases h9 : k = 9
     ·subst h9
      rw [if_pos rfl]
      have hP := ref_capped (1 + timesI (timesI 64 all) c)
      have hb := timesI_B (timesI_B (a := 64) ⟨by omega, by omega⟩ hpB) hc
      unfold cB at *
      repeat' (first | (refine xS 6 4 ?_; refine AL.d (AOp.call rfl rfl hpV) ?_; refine xN 1 ?_) | refine AW.go ?_ | fail)
      repeat' (first | refine AW.re 7 2 ?_ | refine AW.re 8 2 ?_ | refine AW.re 9 2 ?_ | refine AW.re 10 2 ?_ | refine AW.re 12 2 ?_ | refine AW.re 14 2 ?_ | (refine xS 15 1 ?_; refine AL.d (AOp.call rfl rfl t4) ?_; refine AL.es 1 ?_; refine AL.d (AOp.call rfl rfl t5) ?_; refine xN 1 ?_) | (refine xS 18 1 ?_; refine AL.d AOp.ad ?_; refine AL.d (AOp.call rfl rfl hP) ?_; refine xN 1 ?_) | refine AW.jt ?_ | refine AW.jf ?_ | fail)
      exact AW.retv rfl ⟨rfl, rfl⟩
     ·rw [if_neg h9]
      by_cases h11 : k = 11
      ·subst h11
       rw [if_pos rfl]
       have hm : (((min (powI N ar.toNat 1) 50).toNat : Nat) : Int) = min (powI N ar.toNat 1) 50 := by have := hpB2.1; omega
       have hp2 := ref_power03 2 ⟨by omega, by omega⟩ (min (powI N ar.toNat 1) 50).toNat (by omega)
       have hB2 : cB (powI 2 (min (powI N ar.toNat 1) 50).toNat 1) := powI_B ⟨by omega, by omega⟩ _ _ ⟨by omega, by omega⟩
       rw [hm] at hp2
       generalize powI 2 (min (powI N ar.toNat 1) 50).toNat 1 = pw at *
       have t6 := ref_times pw c hB2 hc
       have hP := ref_capped (1 + timesI pw c)
       have hb := timesI_B hB2 hc
       unfold cB at *
       repeat' (first | (refine xS 6 4 ?_; refine AL.d (AOp.call rfl rfl hpV) ?_; refine xN 1 ?_) | refine AW.go ?_ | fail)
       repeat' (first | refine AW.re 7 2 ?_ | refine AW.re 8 2 ?_ | refine AW.re 9 2 ?_ | refine AW.re 10 2 ?_ | refine AW.re 12 2 ?_ | refine AW.re 14 2 ?_ | refine AW.re 16 2 ?_ | (refine xS 17 3 ?_; refine AL.d (AOp.call rfl rfl hpA) ?_; refine AL.d (AOp.min2 rfl rfl) ?_; refine AL.d (AOp.call rfl rfl hp2) ?_; refine AL.es 1 ?_; refine AL.d (AOp.call rfl rfl t6) ?_; refine xN 1 ?_) | (refine xS 18 1 ?_; refine AL.d AOp.ad ?_; refine AL.d (AOp.call rfl rfl hP) ?_; refine xN 1 ?_) | refine AW.jt ?_ | refine AW.jf ?_ | fail)
       exact AW.retv rfl ⟨rfl, rfl⟩
      ·rw [if_neg h11]
       have hP := ref_capped (1 + c)
       unfold cB at *
       repeat' (first | (refine xS 6 4 ?_; refine AL.d (AOp.call rfl rfl hpV) ?_; refine xN 1 ?_) | refine AW.go ?_ | fail)
       repeat' (first | refine AW.re 7 2 ?_ | refine AW.re 8 2 ?_ | refine AW.re 9 2 ?_ | refine AW.re 10 2 ?_ | refine AW.re 12 2 ?_ | refine AW.re 14 2 ?_ | refine AW.re 16 2 ?_ | (refine xS 18 1 ?_; refine AL.d AOp.ad ?_; refine AL.d (AOp.call rfl rfl hP) ?_; refine xN 1 ?_) | refine AW.jj (fun hb => ?_) (fun hb => ?_) | fail)
       all_goals try (exfalso; simp only [dT, dF, beq_iff_eq, beq_eq_false_iff_ne, ne_eq] at *; omega)
       exact AW.retv rfl ⟨rfl, rfl⟩
end Go.Proofs.YtlpndgodkkndnaaGreatDoor
