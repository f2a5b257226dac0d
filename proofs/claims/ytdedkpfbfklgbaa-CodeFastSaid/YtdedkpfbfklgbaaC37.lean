/- Contracts: polynomials. -/
import Derived.Test.YtdedkpfbfklgbaaC9
import Derived.Test.YtdedkpfbfklgbaaS3
namespace Go.Proofs.Ytdedkpfbfklgbaa
open Go.RowKit Go.SX
set_option maxRecDepth 100000
set_option maxHeartbeats 4000000
set_option linter.unusedVariables false
set_option linter.unusedSimpArgs false

def polyAt (p : List Int) (i : Nat) : Int := (p[i]?).getD 0
def PolyOk (p : List Int) : Prop := ∀ x ∈ p, 0 ≤ x ∧ x ≤ 1099511627777
theorem polyAt_ok {p : List Int} (h : PolyOk p) (i : Nat) : 0 ≤ polyAt p i ∧ polyAt p i ≤ 1099511627777 := by
  unfold polyAt
  cases e : p[i]? with
  | none => simp
  | some x => exact h x (List.mem_of_getElem? e)
theorem code_at (p : List Int) (i : Nat) (hl : p.length ≤ 4611686018427387904) : Tri Try.prog 67 [ints p, .int .i64 i] [] (D (.int .i64 (polyAt p i)) []) := by
  by_cases h : i < p.length
  · obtain ⟨x, hx⟩ := get_lt h
    have hx' : (p.map iav)[((i : Nat) : Int).toNat]? = some (iav x) := map_get hx
    rw [polyAt, hx]
    refine Tri.enter 13 Try.func67 rfl rfl rfl rfl fun Fr w0 => ?_
    repeat' (first
      | refine AW.seq ?_
      | (refine AW.region_at 0 ?_ <;> refine AL.ev rfl rfl rfl rfl ?_ <;> refine AL.nil ?_)
      | (refine AW.region_at 1 ?_ <;> refine AL.ev rfl rfl rfl rfl ?_ <;> refine AL.ev rfl rfl rfl rfl ?_ <;> refine AL.det (AOp.len rfl rfl (by kernel_rfl)) rfl rfl rfl ?_ <;> (first | refine AL.ev rfl rfl rfl rfl ?_ | refine AL.det (AOp.add rfl rfl (by omega)) rfl rfl rfl ?_ | refine AL.det (AOp.sub rfl rfl (by omega)) rfl rfl rfl ?_ | refine AL.det (AOp.bool_eq (by kernel_rfl) rfl rfl) rfl rfl rfl ?_ | refine AL.det (AOp.bool_ne (by kernel_rfl) rfl rfl) rfl rfl rfl ?_) <;> refine AL.nil ?_)
      | (refine AW.region_at 2 ?_ <;> refine AL.ev rfl rfl rfl rfl ?_ <;> refine AL.ev rfl rfl rfl rfl ?_ <;> refine AL.det (AOp.index_sl rfl rfl (by omega) hx' (by kernel_rfl) rfl) rfl rfl rfl ?_ <;> refine AL.det (AOp.load_at rfl rfl (by kernel_rfl)) rfl rfl rfl ?_ <;> refine AL.ev rfl rfl rfl rfl ?_ <;> refine AL.nil ?_)
      | (refine AW.region_at 3 ?_ <;> refine AL.ev rfl rfl rfl rfl ?_ <;> refine AL.nil ?_)
      | refine AW.cond_true rfl ?_
      | refine AW.cond_false rfl ?_
      | refine AW.block ?_
      | refine AW.endblk ?_
      | refine AW.skip ?_
      | refine AW.exit rfl ?_
      | refine AW.label ?_
      | refine AW.cond rfl (fun hb => ?_) (fun hb => ?_))
    all_goals first
      | (exfalso; simp only [decide_eq_true_eq, decide_eq_false_iff_not, List.length_map] at *; omega)
      | exact AW.retv rfl ⟨rfl, rfl⟩
  · rw [polyAt, List.getElem?_eq_none (by omega)]
    refine Tri.enter 13 Try.func67 rfl rfl rfl rfl fun Fr w0 => ?_
    repeat' (first
      | refine AW.seq ?_
      | (refine AW.region_at 0 ?_ <;> refine AL.ev rfl rfl rfl rfl ?_ <;> refine AL.nil ?_)
      | (refine AW.region_at 1 ?_ <;> refine AL.ev rfl rfl rfl rfl ?_ <;> refine AL.ev rfl rfl rfl rfl ?_ <;> refine AL.det (AOp.len rfl rfl (by kernel_rfl)) rfl rfl rfl ?_ <;> (first | refine AL.ev rfl rfl rfl rfl ?_ | refine AL.det (AOp.add rfl rfl (by omega)) rfl rfl rfl ?_ | refine AL.det (AOp.sub rfl rfl (by omega)) rfl rfl rfl ?_ | refine AL.det (AOp.bool_eq (by kernel_rfl) rfl rfl) rfl rfl rfl ?_ | refine AL.det (AOp.bool_ne (by kernel_rfl) rfl rfl) rfl rfl rfl ?_) <;> refine AL.nil ?_)
      | (refine AW.region_at 3 ?_ <;> refine AL.ev rfl rfl rfl rfl ?_ <;> refine AL.nil ?_)
      | refine AW.cond_true rfl ?_
      | refine AW.cond_false rfl ?_
      | refine AW.block ?_
      | refine AW.endblk ?_
      | refine AW.skip ?_
      | refine AW.exit rfl ?_
      | refine AW.label ?_
      | refine AW.cond rfl (fun hb => ?_) (fun hb => ?_))
    all_goals first
      | (exfalso; simp only [decide_eq_true_eq, decide_eq_false_iff_not, List.length_map] at *; omega)
      | exact AW.retv rfl ⟨rfl, rfl⟩
theorem plus1 (a b : Int) (ha : 0 ≤ a ∧ a ≤ 1099511627777) (hb : 0 ≤ b ∧ b ≤ 1099511627777) : Tri Try.prog 65 [.int .i64 a, .int .i64 b] [] (D (.int .i64 (a + b)) []) := by
  refine Tri.enter 8 Try.func65 rfl rfl rfl rfl fun Fr w0 => ?_
  repeat' (first
    | refine AW.seq ?_
    | (refine AW.region_at 0 ?_ <;> refine AL.ev rfl rfl rfl rfl ?_ <;> refine AL.nil ?_)
    | (refine AW.region_at 1 ?_ <;> refine AL.ev rfl rfl rfl rfl ?_ <;> refine AL.ev rfl rfl rfl rfl ?_ <;> (first | refine AL.ev rfl rfl rfl rfl ?_ | refine AL.det (AOp.add rfl rfl (by omega)) rfl rfl rfl ?_ | refine AL.det (AOp.sub rfl rfl (by omega)) rfl rfl rfl ?_ | refine AL.det (AOp.bool_eq (by kernel_rfl) rfl rfl) rfl rfl rfl ?_ | refine AL.det (AOp.bool_ne (by kernel_rfl) rfl rfl) rfl rfl rfl ?_) <;> refine AL.ev rfl rfl rfl rfl ?_ <;> refine AL.nil ?_)
    | refine AW.cond_true rfl ?_
    | refine AW.cond_false rfl ?_
    | refine AW.block ?_
    | refine AW.endblk ?_
    | refine AW.skip ?_
    | refine AW.exit rfl ?_
    | refine AW.label ?_
    | refine AW.cond rfl (fun hb => ?_) (fun hb => ?_))
  exact AW.retv rfl ⟨rfl, rfl⟩
theorem time1 (a b : Int) : Tri Try.prog 33 [.int .i64 a, .int .i64 b] [] (D (.int .i64 (max a b)) []) := by
  refine Tri.enter 8 Try.func33 rfl rfl rfl rfl fun Fr w0 => ?_
  repeat' (first
    | refine AW.seq ?_
    | (refine AW.region_at 0 ?_ <;> refine AL.ev rfl rfl rfl rfl ?_ <;> refine AL.nil ?_)
    | (refine AW.region_at 1 ?_ <;> refine AL.ev rfl rfl rfl rfl ?_ <;> refine AL.ev rfl rfl rfl rfl ?_ <;> refine AL.det (AOp.max2 rfl rfl) rfl rfl rfl ?_ <;> refine AL.ev rfl rfl rfl rfl ?_ <;> refine AL.nil ?_)
    | refine AW.cond_true rfl ?_
    | refine AW.cond_false rfl ?_
    | refine AW.block ?_
    | refine AW.endblk ?_
    | refine AW.skip ?_
    | refine AW.exit rfl ?_
    | refine AW.label ?_
    | refine AW.cond rfl (fun hb => ?_) (fun hb => ?_))
  exact AW.retv rfl ⟨rfl, rfl⟩
def joinP (g : Int → Int → Int) (p q : List Int) : List Int := (List.range (max p.length q.length)).map fun i => min (g (polyAt p i) (polyAt q i)) 1099511627777
theorem joinP_len (g : Int → Int → Int) (p q : List Int) : (joinP g p q).length = max p.length q.length := by simp [joinP]
theorem joinP_get {g : Int → Int → Int} {p q : List Int} {i : Nat} (h : i < max p.length q.length) : (joinP g p q)[i]? = some (min (g (polyAt p i) (polyAt q i)) 1099511627777) := by
  simp only [joinP, List.getElem?_map, List.getElem?_range h, Option.map_some]
theorem joinP_ok {g : Int → Int → Int} {p q : List Int} (hp : PolyOk p) (hq : PolyOk q) (hg : ∀ a b, 0 ≤ a → 0 ≤ b → 0 ≤ g a b) : PolyOk (joinP g p q) := by
  intro x hx
  simp only [joinP, List.mem_map] at hx
  obtain ⟨i, _, rfl⟩ := hx
  have := hg _ _ (polyAt_ok hp i).1 (polyAt_ok hq i).1
  omega
theorem fill_set {α : Type} {L : List α} {n i : Nat} {v z : α} (hL : L.length = n) (hv : L[i]? = some v) : (L.take i ++ List.replicate (n - i) z).set i v = L.take (i + 1) ++ List.replicate (n - (i + 1)) z := by
  have hi : i < n := by rw [← hL]; exact (List.getElem?_eq_some_iff.1 hv).1
  have hl : (L.take i).length = i := by simp; omega
  rw [List.set_append, if_neg (by omega), hl, Nat.sub_self, show n - i = (n - (i + 1)) + 1 by omega, List.replicate_succ, List.set_cons_zero, List.take_add_one, hv]
  simp
theorem code_joined (p q : List Int) (hp : PolyOk p) (hq : PolyOk q) (hlp : p.length ≤ 2000000) (hlq : q.length ≤ 2000000) (fid : FuncId) (g : Int → Int → Int) (hg : ∀ a b, 0 ≤ a ∧ a ≤ 1099511627777 → 0 ≤ b ∧ b ≤ 1099511627777 → Tri Try.prog fid [.int .i64 a, .int .i64 b] [] (D (.int .i64 (g a b)) [])) :
    Tri Try.prog 32 [ints p, ints q, .fn fid []] [] (D (ints (joinP g p q)) []) := by
  obtain ⟨n, hn⟩ : ∃ n, n = max p.length q.length := ⟨_, rfl⟩
  have hMx : (some (AV.int .i64 (max ((p.map iav).length : Int) ((q.map iav).length : Int)))) = some (AV.int .i64 (n : Nat)) := by rw [List.length_map, List.length_map, hn]; congr 2; omega
  have hjl := joinP_len g p q
  rw [← hn] at hjl
  refine Tri.enter 34 Try.func32 rfl rfl rfl rfl fun Fr w0 => ?_
  repeat' (first
    | refine AW.seq ?_
    | (refine AW.region_at 0 ?_ <;> refine AL.ev rfl rfl rfl rfl ?_ <;> refine AL.nil ?_)
    | (refine AW.region_at 1 ?_ <;> refine AL.ev rfl rfl rfl rfl ?_ <;> refine AL.det (AOp.len rfl rfl (by kernel_rfl)) rfl rfl rfl ?_ <;> refine AL.ev rfl rfl rfl rfl ?_ <;> refine AL.det (AOp.len rfl rfl (by kernel_rfl)) rfl rfl rfl ?_ <;> refine AL.det (AOp.max2 rfl rfl) rfl rfl rfl ?_ <;> refine AL.makeSlice (n := n) (e := 3) (c := .int .i64 0) (z := .int .i64 0) (bytes := 8) hMx hMx (by kernel_rfl) rfl (by omega) (by omega) rfl fun b => ?_ <;> refine AL.ev rfl rfl rfl rfl ?_ <;> refine AL.nil ?_)
    | refine AW.cond_true rfl ?_
    | refine AW.cond_false rfl ?_
    | refine AW.block ?_
    | refine AW.endblk ?_
    | refine AW.skip ?_
    | refine AW.exit rfl ?_
    | refine AW.label ?_
    | refine AW.cond rfl (fun hb => ?_) (fun hb => ?_))
  repeat' (first
    | refine AW.seq ?_
    | (refine AW.region_at 2 ?_ <;> refine AL.ev rfl rfl rfl rfl ?_ <;> refine AL.det (AOp.len rfl rfl (by kernel_rfl)) rfl rfl rfl ?_ <;> refine AL.ev rfl rfl rfl rfl ?_ <;> refine AL.nil ?_)
    | refine AW.cond_true rfl ?_
    | refine AW.cond_false rfl ?_
    | refine AW.block ?_
    | refine AW.endblk ?_
    | refine AW.skip ?_
    | refine AW.exit rfl ?_
    | refine AW.label ?_
    | refine AW.cond rfl (fun hb => ?_) (fun hb => ?_))
  refine AW.prune [0, 1, 2, 7, 16, 17] (AW.loop (fun m af h => ∃ i : Nat, i ≤ n ∧ m = n - i ∧ af = [(0, ints p), (1, ints q), (2, .fn fid []), (7, .osl b n n), (16, .int .i64 n), (17, .int .i64 i)] ∧ h = [.row b (((joinP g p q).take i ++ List.replicate (n - i) 0).map iav)]) n ⟨0, Nat.zero_le _, rfl, rfl, by rw [List.take_zero, List.nil_append, Nat.sub_zero, List.map_replicate]; rfl⟩ ?_)
  rintro m af h ⟨i, hi, rfl, rfl, rfl⟩
  refine AW.seq ?_
  by_cases hlt : i < n
  · have h1 := code_at p i (by omega)
    have h2 := code_at q i (by omega)
    have h3 := hg _ _ (polyAt_ok hp i) (polyAt_ok hq i)
    repeat' (first
      | refine AW.seq ?_
      | (refine AW.region_at 3 ?_ <;> (first | refine AL.ev rfl rfl rfl rfl ?_ | refine AL.det (AOp.add rfl rfl (by omega)) rfl rfl rfl ?_ | refine AL.det (AOp.sub rfl rfl (by omega)) rfl rfl rfl ?_ | refine AL.det (AOp.bool_eq (by kernel_rfl) rfl rfl) rfl rfl rfl ?_ | refine AL.det (AOp.bool_ne (by kernel_rfl) rfl rfl) rfl rfl rfl ?_) <;> refine AL.nil ?_)
      | (refine AW.region_at 4 ?_ <;> refine AL.ev rfl rfl rfl rfl ?_ <;> refine AL.ev rfl rfl rfl rfl ?_ <;> refine AL.nil ?_)
      | (refine AW.region_at 5 ?_ <;> refine AL.ev rfl rfl rfl rfl ?_ <;> refine AL.ev rfl rfl rfl rfl ?_ <;> refine AL.ev rfl rfl rfl rfl ?_ <;> refine AL.ev rfl rfl rfl rfl ?_ <;> refine AL.ev rfl rfl rfl rfl ?_ <;> (first | refine AL.det (AOp.call rfl rfl (h1.pure _)) rfl rfl rfl ?_ | refine AL.det (AOp.call rfl rfl (h2.pure _)) rfl rfl rfl ?_ | refine AL.det (AOp.call rfl rfl (h3.pure _)) rfl rfl rfl ?_) <;> refine AL.ev rfl rfl rfl rfl ?_ <;> refine AL.ev rfl rfl rfl rfl ?_ <;> (first | refine AL.det (AOp.call rfl rfl (h1.pure _)) rfl rfl rfl ?_ | refine AL.det (AOp.call rfl rfl (h2.pure _)) rfl rfl rfl ?_ | refine AL.det (AOp.call rfl rfl (h3.pure _)) rfl rfl rfl ?_) <;> (first | refine AL.det (AOp.call rfl rfl (h1.pure _)) rfl rfl rfl ?_ | refine AL.det (AOp.call rfl rfl (h2.pure _)) rfl rfl rfl ?_ | refine AL.det (AOp.call rfl rfl (h3.pure _)) rfl rfl rfl ?_) <;> refine AL.det (AOp.min2 rfl rfl) rfl rfl rfl ?_ <;> refine AL.det (AOp.index_osl rfl rfl (by omega) (by omega) (by kernel_rfl)) rfl rfl rfl ?_ <;> refine AL.store_cell 0 rfl rfl rfl (by simp; omega) rfl rfl (by kernel_rfl) ?_ <;> refine AL.nil ?_)
      | refine AW.cond_true rfl ?_
      | refine AW.cond_false rfl ?_
      | refine AW.block ?_
      | refine AW.endblk ?_
      | refine AW.skip ?_
      | refine AW.exit rfl ?_
      | refine AW.label ?_
      | refine AW.cond rfl (fun hb => ?_) (fun hb => ?_))
    all_goals try (exfalso; simp only [decide_eq_true_eq, decide_eq_false_iff_not, List.length_map] at *; omega)
    have hset := fill_set (z := (0 : Int)) hjl (joinP_get (g := g) (p := p) (q := q) (i := i) (by omega))
    repeat' (first
      | refine AW.seq ?_
      | (refine AW.region_at 6 ?_ <;> (first | refine AL.ev rfl rfl rfl rfl ?_ | refine AL.det (AOp.add rfl rfl (by omega)) rfl rfl rfl ?_ | refine AL.det (AOp.sub rfl rfl (by omega)) rfl rfl rfl ?_ | refine AL.det (AOp.bool_eq (by kernel_rfl) rfl rfl) rfl rfl rfl ?_ | refine AL.det (AOp.bool_ne (by kernel_rfl) rfl rfl) rfl rfl rfl ?_) <;> refine AL.ev rfl rfl rfl rfl ?_ <;> refine AL.nil ?_)
      | refine AW.cond_true rfl ?_
      | refine AW.cond_false rfl ?_
      | refine AW.block ?_
      | refine AW.endblk ?_
      | refine AW.skip ?_
      | refine AW.exit rfl ?_
      | refine AW.label ?_
      | refine AW.cond rfl (fun hb => ?_) (fun hb => ?_))
    refine AW.again_keep (n - (i + 1)) [0, 1, 2, 7, 16, 17] (by omega) ⟨i + 1, hlt, rfl, rfl, ?_⟩
    rw [← hset, List.map_set]
    rfl
  · obtain rfl : i = n := by omega
    repeat' (first
      | refine AW.seq ?_
      | (refine AW.region_at 3 ?_ <;> (first | refine AL.ev rfl rfl rfl rfl ?_ | refine AL.det (AOp.add rfl rfl (by omega)) rfl rfl rfl ?_ | refine AL.det (AOp.sub rfl rfl (by omega)) rfl rfl rfl ?_ | refine AL.det (AOp.bool_eq (by kernel_rfl) rfl rfl) rfl rfl rfl ?_ | refine AL.det (AOp.bool_ne (by kernel_rfl) rfl rfl) rfl rfl rfl ?_) <;> refine AL.nil ?_)
      | refine AW.cond_true rfl ?_
      | refine AW.cond_false rfl ?_
      | refine AW.block ?_
      | refine AW.endblk ?_
      | refine AW.skip ?_
      | refine AW.exit rfl ?_
      | refine AW.label ?_
      | refine AW.cond rfl (fun hb => ?_) (fun hb => ?_))
    all_goals try (exfalso; simp only [decide_eq_true_eq, decide_eq_false_iff_not] at *; omega)
    refine AW.freeze_row 0 7 rfl rfl (by simp; omega) (all_map fun _ => rfl) ?_
    repeat' (first
      | refine AW.seq ?_
      | (refine AW.region_at 7 ?_ <;> refine AL.ev rfl rfl rfl rfl ?_ <;> refine AL.ev rfl rfl rfl rfl ?_ <;> refine AL.nil ?_)
      | refine AW.cond_true rfl ?_
      | refine AW.cond_false rfl ?_
      | refine AW.block ?_
      | refine AW.endblk ?_
      | refine AW.skip ?_
      | refine AW.exit rfl ?_
      | refine AW.label ?_
      | refine AW.cond rfl (fun hb => ?_) (fun hb => ?_))
    first | refine AW.donev rfl ⟨?_, rfl⟩ | refine AW.retv rfl ⟨?_, rfl⟩
    show AEnd.ret (.sl (((joinP g p q).take i ++ List.replicate (i - i) 0).map iav)) = _
    rw [Nat.sub_self, List.replicate_zero, List.append_nil, List.take_of_length_le (by omega)]
    rfl
def plusP (p q : List Int) : List Int := joinP (fun a b => a + b) p q
theorem code_plus (p q : List Int) (hp : PolyOk p) (hq : PolyOk q) (hlp : p.length ≤ 2000000) (hlq : q.length ≤ 2000000) : Tri Try.prog 30 [ints p, ints q] [] (D (ints (plusP p q)) []) := by
  have h := code_joined p q hp hq hlp hlq 65 (fun a b => a + b) plus1
  refine Tri.enter 8 Try.func30 rfl rfl rfl rfl fun Fr w0 => ?_
  repeat' (first
    | refine AW.seq ?_
    | (refine AW.region_at 0 ?_ <;> refine AL.ev rfl rfl rfl rfl ?_ <;> refine AL.nil ?_)
    | (refine AW.region_at 1 ?_ <;> refine AL.ev rfl rfl rfl rfl ?_ <;> refine AL.ev rfl rfl rfl rfl ?_ <;> refine AL.det (AOp.call rfl rfl h) rfl rfl rfl ?_ <;> refine AL.ev rfl rfl rfl rfl ?_ <;> refine AL.nil ?_)
    | refine AW.cond_true rfl ?_
    | refine AW.cond_false rfl ?_
    | refine AW.block ?_
    | refine AW.endblk ?_
    | refine AW.skip ?_
    | refine AW.exit rfl ?_
    | refine AW.label ?_
    | refine AW.cond rfl (fun hb => ?_) (fun hb => ?_))
  exact AW.retv rfl ⟨rfl, rfl⟩
theorem slices_Grow (n : Nat) (h0 : 0 < n) (hn : n ≤ 2000000) : Tri Try.prog 80 [nilS, .int .i64 n] [] (fun x h => ∃ b k, n ≤ k ∧ x = .ret (.osl b 0 k) ∧ h = [.row b (List.replicate k (.int .i64 0))]) := by
  refine Tri.enter 27 Try.func80 rfl rfl rfl rfl fun Fr w0 => ?_
  repeat' (first
    | refine AW.seq ?_
    | (refine AW.region_at 0 ?_ <;> refine AL.ev rfl rfl rfl rfl ?_ <;> refine AL.nil ?_)
    | (refine AW.region_at 1 ?_ <;> refine AL.ev rfl rfl rfl rfl ?_ <;> (first | refine AL.ev rfl rfl rfl rfl ?_ | refine AL.det (AOp.add rfl rfl (by omega)) rfl rfl rfl ?_ | refine AL.det (AOp.sub rfl rfl (by omega)) rfl rfl rfl ?_ | refine AL.det (AOp.bool_eq (by kernel_rfl) rfl rfl) rfl rfl rfl ?_ | refine AL.det (AOp.bool_ne (by kernel_rfl) rfl rfl) rfl rfl rfl ?_) <;> refine AL.nil ?_)
    | refine AW.cond_true rfl ?_
    | refine AW.cond_false rfl ?_
    | refine AW.block ?_
    | refine AW.endblk ?_
    | refine AW.skip ?_
    | refine AW.exit rfl ?_
    | refine AW.label ?_
    | refine AW.cond rfl (fun hb => ?_) (fun hb => ?_))
  all_goals try (exfalso; simp only [decide_eq_true_eq, decide_eq_false_iff_not] at *; omega)
  repeat' (first
    | refine AW.seq ?_
    | (refine AW.region_at 3 ?_ <;> refine AL.ev rfl rfl rfl rfl ?_ <;> refine AL.ev rfl rfl rfl rfl ?_ <;> refine AL.det (AOp.cap_nil (by kernel_rfl) rfl) rfl rfl rfl ?_ <;> refine AL.ev rfl rfl rfl rfl ?_ <;> (first | refine AL.det (AOp.len_nil (by kernel_rfl) rfl) rfl rfl rfl ?_ | refine AL.det (AOp.len rfl rfl (by kernel_rfl)) rfl rfl rfl ?_) <;> (first | refine AL.ev rfl rfl rfl rfl ?_ | refine AL.det (AOp.add rfl rfl (by omega)) rfl rfl rfl ?_ | refine AL.det (AOp.sub rfl rfl (by omega)) rfl rfl rfl ?_ | refine AL.det (AOp.bool_eq (by kernel_rfl) rfl rfl) rfl rfl rfl ?_ | refine AL.det (AOp.bool_ne (by kernel_rfl) rfl rfl) rfl rfl rfl ?_) <;> (first | refine AL.ev rfl rfl rfl rfl ?_ | refine AL.det (AOp.add rfl rfl (by omega)) rfl rfl rfl ?_ | refine AL.det (AOp.sub rfl rfl (by omega)) rfl rfl rfl ?_ | refine AL.det (AOp.bool_eq (by kernel_rfl) rfl rfl) rfl rfl rfl ?_ | refine AL.det (AOp.bool_ne (by kernel_rfl) rfl rfl) rfl rfl rfl ?_) <;> refine AL.ev rfl rfl rfl rfl ?_ <;> refine AL.nil ?_)
    | (refine AW.region_at 4 ?_ <;> refine AL.ev rfl rfl rfl rfl ?_ <;> (first | refine AL.ev rfl rfl rfl rfl ?_ | refine AL.det (AOp.add rfl rfl (by omega)) rfl rfl rfl ?_ | refine AL.det (AOp.sub rfl rfl (by omega)) rfl rfl rfl ?_ | refine AL.det (AOp.bool_eq (by kernel_rfl) rfl rfl) rfl rfl rfl ?_ | refine AL.det (AOp.bool_ne (by kernel_rfl) rfl rfl) rfl rfl rfl ?_) <;> refine AL.nil ?_)
    | refine AW.cond_true rfl ?_
    | refine AW.cond_false rfl ?_
    | refine AW.block ?_
    | refine AW.endblk ?_
    | refine AW.skip ?_
    | refine AW.exit rfl ?_
    | refine AW.label ?_
    | refine AW.cond rfl (fun hb => ?_) (fun hb => ?_))
  · have hnx : (some (AV.int .i64 ((n : Int) - (0 - 0)))) = some (AV.int .i64 (n : Nat)) := by rw [Int.sub_zero, Int.sub_zero]
    refine AW.region_at 5 ?_
    refine AL.ev rfl rfl rfl rfl ?_
    refine AL.ev rfl rfl rfl rfl ?_
    refine AL.det (AOp.cap_nil (by kernel_rfl) rfl) rfl rfl rfl ?_
    refine AL.det (AOp.cut_nil (sz := 1) (by kernel_rfl) rfl bndIs.none (bndIs.some (i := 0) rfl rfl)) rfl rfl rfl ?_
    refine AL.ev rfl rfl rfl rfl ?_
    refine AL.append_zeros (n := n) (e := 3) (c := .int .i64 0) (z := .int .i64 0) (bytes := 8) rfl hnx h0 (by kernel_rfl) (by kernel_rfl) rfl (by omega) (by omega) rfl fun b k hk => ?_
    refine AL.ev rfl rfl rfl rfl ?_
    refine AL.det (AOp.len_nil (by kernel_rfl) rfl) rfl rfl rfl ?_
    refine AL.det (AOp.cut_osl (sz := 1) (h := 0) (by kernel_rfl) rfl (bndIs.some (i := 0) rfl rfl) (Nat.zero_le _)) rfl rfl rfl ?_
    refine AL.ev rfl rfl rfl rfl ?_
    refine AL.nil ?_
    repeat' (first
      | refine AW.seq ?_
      | (refine AW.region_at 6 ?_ <;> refine AL.ev rfl rfl rfl rfl ?_ <;> refine AL.ev rfl rfl rfl rfl ?_ <;> refine AL.nil ?_)
      | refine AW.cond_true rfl ?_
      | refine AW.cond_false rfl ?_
      | refine AW.block ?_
      | refine AW.endblk ?_
      | refine AW.skip ?_
      | refine AW.exit rfl ?_
      | refine AW.label ?_
      | refine AW.cond rfl (fun hb => ?_) (fun hb => ?_))
    first
      | exact AW.retv rfl ⟨b, k, hk, rfl, rfl⟩
      | exact AW.donev rfl ⟨b, k, hk, rfl, rfl⟩
  · exfalso; simp only [decide_eq_false_iff_not] at hb; omega
end Go.Proofs.Ytdedkpfbfklgbaa
