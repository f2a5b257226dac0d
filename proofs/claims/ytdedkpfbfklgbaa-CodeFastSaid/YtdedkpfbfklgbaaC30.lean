/- Contracts: Run's loop over the arrays. -/
import Derived.Test.YtdedkpfbfklgbaaC29
namespace Go.Proofs.Ytdedkpfbfklgbaa
open Go.RowKit Go.SX
set_option maxRecDepth 100000
set_option maxHeartbeats 4000000
set_option linter.unusedVariables false
set_option linter.unusedSimpArgs false

def symR (s : GStr) (st : Chk) (k : ByteArray) : List Bool := match lookA st.S k with | some a => tableR s k a | none => []
def arrR (s : GStr) (st : Chk) : List GSym → ByteArray → List Bool
  | [] => symR s st
  | a :: l => upd (arrR s st l) a.Name (List.replicate (powerR s.Size a.Arity).1.toNat false)
def msr (c : GCode) (rels : ByteArray → List Bool) : MS := ⟨List.replicate c.Flags.toNat false, List.replicate c.Regs.toNat 0, rels, 0, 0⟩
theorem arrR_mem {s : GStr} {st : Chk} : ∀ {l : List GSym}, (l.map (·.Name)).Nodup → ∀ a ∈ l, arrR s st l a.Name = List.replicate (powerR s.Size a.Arity).1.toNat false
  | [], _, a, h => by cases h
  | b :: l, hn, a, h => by
    simp only [List.map_cons, List.nodup_cons] at hn
    rw [arrR]
    rcases List.mem_cons.1 h with rfl | h
    · rw [upd_same]
    · rw [upd_ne, arrR_mem hn.2 a h]
      intro e
      exact hn.1 (e ▸ List.mem_map_of_mem h)
theorem arrR_not {s : GStr} {st : Chk} {k : ByteArray} : ∀ {l : List GSym}, k ∉ l.map (·.Name) → arrR s st l k = symR s st k
  | [], _ => rfl
  | b :: l, h => by
    simp only [List.map_cons, List.mem_cons, not_or] at h
    rw [arrR, upd_ne _ _ h.1, arrR_not h.2]
theorem arrR_all {c : GCode} {s : GStr} (hck : ChkOk c) {l : List GSym} (hl : l.Perm c.Arrays) : arrR s (checkedP c) l = initR s (checkedP c) := by
  funext k
  have hnd : (l.map (·.Name)).Nodup := ((hl.map (·.Name)).nodup_iff).2 hck.arrs
  by_cases h : k ∈ l.map (·.Name)
  · obtain ⟨a, ha, rfl⟩ := List.mem_map.1 h
    rw [arrR_mem hnd a ha, initR, hck.look a (hl.mem_iff.1 ha)]
  · rw [arrR_not h, initR, symR]
    cases hA : lookA (checkedP c).A k with
    | none => rfl
    | some n =>
      obtain ⟨a, ha, rfl, _⟩ := hck.only k n hA
      exact (h (List.mem_map_of_mem (hl.mem_iff.2 ha))).elim
theorem sym_mem {A : List (ByteArray × Int)} {k : ByteArray} {n : Int} (h : lookA A k = some n) : (k, n) ∈ A := by
  induction A with
  | nil => cases h
  | cons p A ih =>
    obtain ⟨k', w⟩ := p
    simp only [lookA] at h
    by_cases e : k = k'
    · rw [if_pos e] at h; cases h; subst e; simp
    · rw [if_neg e] at h; exact List.mem_cons_of_mem _ (ih h)
theorem m0_fit {c : GCode} {s : GStr} {G : List Bool} {fuel : Int} (hG : G.length ≤ 4611686018427387904) (hok : RunOk c s fuel) (hck : ChkOk c) (B : Blk) (hnd : B.names.Nodup) (hnm : ∀ k, k ∈ (checkedP c).S.map (·.1) ∨ k ∈ c.Arrays.map (·.Name) → k ∈ B.names) :
    MFit c.Flags.toNat c.Regs.toNat (sigOf c) ⟨s.Size, G, fuel⟩ B (m0 c s) := by
  obtain ⟨v1, v2, v3⟩ := valid_rel hok.valid
  have hfl := hck.flags
  have hrg := hck.regs
  exact {
    n := ⟨v1, v2⟩
    fuel := hok.fuel
    glen := hG
    flen := by simp [m0]
    fl := by omega
    rlen := by simp [m0]
    rl := by omega
    regs := fun x hx => by simp only [m0, List.mem_replicate] at hx; rw [hx.2]; exact ⟨by omega, v1⟩
    used := ⟨by simp [m0], by simp [m0]⟩
    steps := ⟨by simp [m0], hok.fuel.1⟩
    nodup := hnd
    sig := fun k a h => by
      unfold sigOf at h
      show k ∈ B.names ∧ ((initR s (checkedP c) k).length : Int) = s.Size ^ a ∧ s.Size ^ a ≤ 4096
      unfold initR
      cases hA : lookA (checkedP c).A k with
      | some ar =>
        rw [hA] at h
        simp only [Option.some.injEq] at h
        subst h
        obtain ⟨x, hx, rfl, rfl⟩ := hck.only k ar hA
        have hp := power_val (hok.size x hx)
        refine ⟨hnm _ (.inr (List.mem_map_of_mem hx)), ?_, hp.2.1⟩
        simp only [List.length_replicate]
        rw [hp.1]; omega
      | none =>
        rw [hA] at h
        simp only at h
        cases hS : lookA (checkedP c).S k with
        | none => rw [hS] at h; cases h
        | some ar =>
          rw [hS] at h
          simp only [Option.map_some, Option.some.injEq] at h
          subst h
          have hm := sym_mem hS
          obtain ⟨r, hr, hr1, hr2, _⟩ := find_rel (hok.found _ hm)
          have hrb := v3 r (List.mem_of_getElem? hr)
          have hp := power_val (rel_power v1 v2 hrb).1
          have hr2 : r.Arity = ar := hr2
          rw [hr2] at hp
          refine ⟨hnm _ (.inl (List.mem_map_of_mem hm)), ?_, hp.2.1⟩
          simp only [tableR, hr]
          rw [tabGo_len, List.length_replicate, hr2, hp.1]
          omega }
theorem run_t7 (c : GCode) (s : GStr) (G : List Bool) (fuel : Int) (hc : c.Ok) (hG : G.length ≤ 4611686018427387904) (hbad : (checkedP c).bad = false) (hval : validStr s = true) (hfound : ∀ p ∈ (checkedP c).S, 0 ≤ findI s p.1 p.2) (hf : 0 ≤ fuel ∧ fuel ≤ 10000000) (hck : ChkOk c) (b ba bs r1 r2 r3 r4 : Nat) (gA : MG) (B : Blk)
    (hnd : B.names.Nodup) (hnm : ∀ k, k ∈ B.names ↔ k ∈ (checkedP c).S.map (·.1)) (Fr : Rg) (w0 : World) :
    AW (CofD Try.prog Try.f10 179 Fr (reg []) w0 (RunPost c s G fuel)) [] [.c (fst1 (fst1 (sndN 7 (bodyOf Try.f10)))), .c (sndN 1 (fst1 (sndN 7 (bodyOf Try.f10)))), .c (sndN 8 (bodyOf Try.f10))] (runAF c s G fuel b r1 r2 r3 r4 B.mb) ((checkedP c).ah b ba bs gA ++ resAH r1 r2 r3 r4 false 0 0 0 ++ (msr c (symR s (checkedP c))).ah ⟨s.Size, G, fuel⟩ B) := by
  have hca := hc.2.2.1
  have hal : c.Arrays.length ≤ 4611686018427387904 := by have := hca.1; omega
  -- refine Tri.enterD 179 Try.func10 rfl rfl rfl rfl fun Fr w0 => ?_
  repeat' (first
    | refine AW.seq ?_
    | (refine AW.region_at 24 ?_ <;> (first | refine AL.det (AOp.field_at rfl rfl (by kernel_rfl) rfl) rfl rfl rfl ?_ | refine AL.det (AOp.field_ref (off := 2) rfl (by kernel_rfl)) rfl rfl rfl ?_) <;> refine AL.det (AOp.load_at rfl rfl (by kernel_rfl)) rfl rfl rfl ?_ <;> refine AL.det (AOp.len rfl rfl (by kernel_rfl)) rfl rfl rfl ?_ <;> refine AL.ev rfl rfl rfl rfl ?_ <;> refine AL.nil ?_)
    | refine AW.cond_true rfl ?_
    | refine AW.cond_false rfl ?_
    | refine AW.block ?_
    | refine AW.endblk ?_
    | refine AW.skip ?_
    | refine AW.exit rfl ?_
    | refine AW.label ?_
    | refine AW.cond rfl (fun hb => ?_) (fun hb => ?_))
  refine AW.prune [2, 3, 4, 5, 8, 9, 10, 11, 12, 15, 135, 136, 137] (AW.loop (fun m af h => ∃ (i : Nat) (B' : Blk), i ≤ c.Arrays.length ∧ m = c.Arrays.length - i ∧ af = runAF c s G fuel b r1 r2 r3 r4 B.mb ++ [(135, .sl (c.Arrays.map GSym.av)), (136, .int .i64 (c.Arrays.map GSym.av).length), (137, .int .i64 i)] ∧ h = (checkedP c).ah b ba bs gA ++ resAH r1 r2 r3 r4 false 0 0 0 ++ (msr c (arrR s (checkedP c) (c.Arrays.take i).reverse)).ah ⟨s.Size, G, fuel⟩ B' ∧ B'.mb = B.mb ∧ B'.names.Nodup ∧ (∀ k, k ∈ B'.names ↔ k ∈ (checkedP c).S.map (·.1) ∨ k ∈ (c.Arrays.take i).map (·.Name)) ∧ ∀ a ∈ c.Arrays.take i, (powerR s.Size a.Arity).2 = 0) c.Arrays.length ⟨0, B, Nat.zero_le _, rfl, rfl, rfl, rfl, hnd, by simpa using hnm, by simp⟩ ?_)
  rintro m af h ⟨i, B', hi, rfl, rfl, rfl, hmb, hnd', hnm', hsz⟩
  refine AW.seq ?_
  by_cases hlt : i < c.Arrays.length
  · obtain ⟨x, hx⟩ := get_lt hlt
    have hx' : (c.Arrays.map GSym.av)[((i : Nat) : Int).toNat]? = some x.av := map_get hx
    have hxm := List.mem_of_getElem? hx
    have hpw := shape_Power s.Size x.Arity
    repeat' (first
      | refine AW.seq ?_
      | (refine AW.region_at 25 ?_ <;> (first | refine AL.ev rfl rfl rfl rfl ?_ | refine AL.det (AOp.add rfl rfl (by omega)) rfl rfl rfl ?_ | refine AL.det (AOp.sub rfl rfl (by omega)) rfl rfl rfl ?_ | refine AL.det (AOp.bool_eq (by kernel_rfl) rfl rfl) rfl rfl rfl ?_ | refine AL.det (AOp.bool_ne (by kernel_rfl) rfl rfl) rfl rfl rfl ?_) <;> refine AL.nil ?_)
      | (refine AW.region_at 26 ?_ <;> refine AL.det (AOp.index_sl rfl rfl (by omega) hx' (by kernel_rfl) rfl) rfl rfl rfl ?_ <;> refine AL.det (AOp.load_at rfl rfl (by kernel_rfl)) rfl rfl rfl ?_ <;> refine AL.alloc_store (by kernel_rfl) rfl rfl rfl rfl ?_ <;> refine AL.nil ?_)
      | (refine AW.region_at 27 ?_ <;> (first | refine AL.det (AOp.field_at rfl rfl (by kernel_rfl) rfl) rfl rfl rfl ?_ | refine AL.det (AOp.field_ref (off := 0) rfl (by kernel_rfl)) rfl rfl rfl ?_) <;> refine AL.det (AOp.load_at rfl rfl (by kernel_rfl)) rfl rfl rfl ?_ <;> (first | refine AL.det (AOp.field_at rfl rfl (by kernel_rfl) rfl) rfl rfl rfl ?_ | refine AL.det (AOp.field_ref (off := 1) rfl (by kernel_rfl)) rfl rfl rfl ?_) <;> refine AL.det (AOp.load_at rfl rfl (by kernel_rfl)) rfl rfl rfl ?_ <;> refine AL.det (AOp.call rfl rfl (hpw.pure _)) rfl rfl rfl ?_ <;> refine AL.ev rfl rfl rfl rfl ?_ <;> refine AL.ev rfl rfl rfl rfl ?_ <;> refine AL.ev rfl rfl rfl rfl ?_ <;> refine AL.ev rfl rfl rfl rfl ?_ <;> refine AL.ev rfl rfl rfl rfl ?_ <;> refine AL.nil ?_)
      | (refine AW.region_at 28 ?_ <;> refine AL.ev rfl rfl rfl rfl ?_ <;> (first | refine AL.ev rfl rfl rfl rfl ?_ | refine AL.det (AOp.add rfl rfl (by omega)) rfl rfl rfl ?_ | refine AL.det (AOp.sub rfl rfl (by omega)) rfl rfl rfl ?_ | refine AL.det (AOp.bool_eq (by kernel_rfl) rfl rfl) rfl rfl rfl ?_ | refine AL.det (AOp.bool_ne (by kernel_rfl) rfl rfl) rfl rfl rfl ?_) <;> refine AL.nil ?_)
      | refine AW.cond_true rfl ?_
      | refine AW.cond_false rfl ?_
      | refine AW.block ?_
      | refine AW.endblk ?_
      | refine AW.skip ?_
      | refine AW.exit rfl ?_
      | refine AW.label ?_
      | refine AW.cond rfl (fun hb => ?_) (fun hb => ?_))
    all_goals try (exfalso; simp only [decide_eq_true_eq, decide_eq_false_iff_not, List.length_map] at *; omega)
    · repeat' (first
        | refine AW.seq ?_
        | (refine AW.region_at 29 ?_ <;> (first | refine AL.store_leaf 0 rfl rfl rfl rfl rfl (by kernel_rfl) ?_ | refine AL.store_leaf 1 rfl rfl rfl rfl rfl (by kernel_rfl) ?_ | refine AL.store_leaf 2 rfl rfl rfl rfl rfl (by kernel_rfl) ?_ | refine AL.store_leaf 3 rfl rfl rfl rfl rfl (by kernel_rfl) ?_ | refine AL.store_leaf 4 rfl rfl rfl rfl rfl (by kernel_rfl) ?_ | refine AL.store_leaf 5 rfl rfl rfl rfl rfl (by kernel_rfl) ?_ | refine AL.store_leaf 6 rfl rfl rfl rfl rfl (by kernel_rfl) ?_) <;> (first | refine AL.store_leaf 0 rfl rfl rfl rfl rfl (by kernel_rfl) ?_ | refine AL.store_leaf 1 rfl rfl rfl rfl rfl (by kernel_rfl) ?_ | refine AL.store_leaf 2 rfl rfl rfl rfl rfl (by kernel_rfl) ?_ | refine AL.store_leaf 3 rfl rfl rfl rfl rfl (by kernel_rfl) ?_ | refine AL.store_leaf 4 rfl rfl rfl rfl rfl (by kernel_rfl) ?_ | refine AL.store_leaf 5 rfl rfl rfl rfl rfl (by kernel_rfl) ?_ | refine AL.store_leaf 6 rfl rfl rfl rfl rfl (by kernel_rfl) ?_) <;> (first | refine AL.store_leaf 0 rfl rfl rfl rfl rfl (by kernel_rfl) ?_ | refine AL.store_leaf 1 rfl rfl rfl rfl rfl (by kernel_rfl) ?_ | refine AL.store_leaf 2 rfl rfl rfl rfl rfl (by kernel_rfl) ?_ | refine AL.store_leaf 3 rfl rfl rfl rfl rfl (by kernel_rfl) ?_ | refine AL.store_leaf 4 rfl rfl rfl rfl rfl (by kernel_rfl) ?_ | refine AL.store_leaf 5 rfl rfl rfl rfl rfl (by kernel_rfl) ?_ | refine AL.store_leaf 6 rfl rfl rfl rfl rfl (by kernel_rfl) ?_) <;> (first | refine AL.store_leaf 0 rfl rfl rfl rfl rfl (by kernel_rfl) ?_ | refine AL.store_leaf 1 rfl rfl rfl rfl rfl (by kernel_rfl) ?_ | refine AL.store_leaf 2 rfl rfl rfl rfl rfl (by kernel_rfl) ?_ | refine AL.store_leaf 3 rfl rfl rfl rfl rfl (by kernel_rfl) ?_ | refine AL.store_leaf 4 rfl rfl rfl rfl rfl (by kernel_rfl) ?_ | refine AL.store_leaf 5 rfl rfl rfl rfl rfl (by kernel_rfl) ?_ | refine AL.store_leaf 6 rfl rfl rfl rfl rfl (by kernel_rfl) ?_) <;> refine AL.nil ?_)
        | refine AW.cond_true rfl ?_
        | refine AW.cond_false rfl ?_
        | refine AW.block ?_
        | refine AW.endblk ?_
        | refine AW.skip ?_
        | refine AW.exit rfl ?_
        | refine AW.label ?_
        | refine AW.cond rfl (fun hb => ?_) (fun hb => ?_))
      exact AW.retD0 (.cell 3 rfl rfl (by kernel_rfl) (.cell 4 rfl rfl (by kernel_rfl) (.cell 5 rfl rfl (by kernel_rfl) (.cell 6 rfl rfl (by kernel_rfl) .nil)))) ⟨_, _, _, _, .size hbad hval hfound hf x hxm (by simpa using hb), rfl⟩
    · have hp0 : (powerR s.Size x.Arity).2 = 0 := by simpa using hb
      have hpv := power_val hp0
      have hVx : (some (AV.int .i64 (powerR s.Size x.Arity).1)) = some (AV.int .i64 ((powerR s.Size x.Arity).1.toNat : Nat)) := by rw [Int.toNat_of_nonneg (by rw [hpv.1]; exact hpv.2.2)]
      have hVb : (powerR s.Size x.Arity).1.toNat ≤ 4096 := by rw [hpv.1]; omega
      have htk : c.Arrays.take (i + 1) = c.Arrays.take i ++ [x] := by rw [List.take_add_one, hx]; rfl
      have hnew : x.Name ∉ B'.names := by
        rw [hnm']
        rintro (h | h)
        · exact hck.apart x hxm h
        · have h1 := hck.arrs
          rw [← List.take_append_drop i c.Arrays, drop_cons hx, List.map_append, List.nodup_append] at h1
          exact h1.2.2 _ h _ (by simp) rfl
      refine AW.prune [2, 3, 4, 5, 8, 9, 10, 11, 12, 15, 25, 26, 135, 136, 137] ?_
      have hmbx : (some (AV.ref B.mb 0)) = some (AV.ref B'.mb 0) := by rw [hmb]
      refine AW.explore [false, false, false, false, false, false, false, false, false, false, true] [7, 8] rfl (by kernel_rfl) (by kernel_rfl) (by kernel_rfl) (by kernel_rfl) ?_
      refine AQE.ev rfl (show evalOp _ _ = some (AV.ref B'.mb 0) from hmbx) rfl rfl ?_
      repeat' (first
        | refine AQE.hole rfl rfl ?_
        | refine AQE.ev rfl rfl rfl rfl ?_
        | refine AQE.op rfl (AOp.field_at rfl rfl (by kernel_rfl) rfl) rfl rfl ?_
        | refine AQE.op rfl (AOp.field_ref (k := 3) (off := 3) rfl (by kernel_rfl)) rfl rfl ?_
        | refine AQE.op rfl (AOp.load_at rfl rfl (by kernel_rfl)) rfl rfl ?_
        | refine AQE.op rfl (AOp.load_leaf 7 rfl rfl rfl rfl (by kernel_rfl)) rfl rfl ?_
        | refine AQE.nil ?_)
      refine AX.one (n := 1) 7 rfl ?_
      refine AXS.new (i := 7) rfl rfl rfl (AOp.makeSlice (n := (powerR s.Size x.Arity).1.toNat) (e := 4) (c := .bool false) (z := .bool false) (bytes := 1) hVx hVx (by kernel_rfl) rfl (by omega) (by omega)) (fun nb => ?_)
      dsimp only [List.set_cons_succ, List.set_cons_zero]
      refine AX.one (n := 0) 8 rfl ?_
      refine AXS.step (i := 8) rfl rfl rfl (AOp.mapUpdate (i := 1) (kd := .string) (e := 29) (k := .str x.Name) (v := .osl nb (powerR s.Size x.Arity).1.toNat (powerR s.Size x.Arity).1.toNat) rfl rfl rfl rfl (by kernel_rfl) rfl (keysOK_kvW _ _)) ?_ (by rintro _ _ ⟨⟨_, e⟩, _⟩; cases e)
      rintro _ _ ⟨⟨_, e⟩, rfl⟩
      dsimp only [List.set_cons_succ, List.set_cons_zero]
      refine AX.done [(2, bools G), (3, .int .i64 fuel), (4, .at c.av), (5, .at s.av), (8, .ref r1 0), (9, .ref r2 0), (10, .ref r3 0), (11, .ref r4 0), (12, .ref b 0), (15, .ref B.mb 0), (135, .sl (c.Arrays.map GSym.av)), (136, .int .i64 (c.Arrays.map GSym.av).length), (137, .int .i64 i)] rfl ?_
      refine AW.perm (ah_new ⟨s.Size, G, fuel⟩ B' (msr c (arrR s (checkedP c) (c.Arrays.take i).reverse)) ((checkedP c).ah b ba bs gA ++ resAH r1 r2 r3 r4 false 0 0 0) hnew nb (List.replicate (powerR s.Size x.Arity).1.toNat false) _ (List.length_replicate ..).symm _ (List.map_replicate ..).symm) ?_
      repeat' (first
        | refine AW.seq ?_
        | (refine AW.region_at 31 ?_ <;> (first | refine AL.ev rfl rfl rfl rfl ?_ | refine AL.det (AOp.add rfl rfl (by omega)) rfl rfl rfl ?_ | refine AL.det (AOp.sub rfl rfl (by omega)) rfl rfl rfl ?_ | refine AL.det (AOp.bool_eq (by kernel_rfl) rfl rfl) rfl rfl rfl ?_ | refine AL.det (AOp.bool_ne (by kernel_rfl) rfl rfl) rfl rfl rfl ?_) <;> refine AL.ev rfl rfl rfl rfl ?_ <;> refine AL.nil ?_)
        | refine AW.cond_true rfl ?_
        | refine AW.cond_false rfl ?_
        | refine AW.block ?_
        | refine AW.endblk ?_
        | refine AW.skip ?_
        | refine AW.exit rfl ?_
        | refine AW.label ?_
        | refine AW.cond rfl (fun hb => ?_) (fun hb => ?_))
      refine AW.again_keep (c.Arrays.length - (i + 1)) [2, 3, 4, 5, 8, 9, 10, 11, 12, 15, 135, 136, 137] (by omega) ⟨i + 1, B'.add x.Name nb (gset (kvW oslv (relA B' (msr c (arrR s (checkedP c) (c.Arrays.take i).reverse)))) B'.gl (.str x.Name)), hlt, rfl, rfl, ?_, hmb, ?_, ?_, ?_⟩
      · rw [htk, List.reverse_append]; rfl
      · show (B'.names ++ [x.Name]).Nodup
        rw [List.nodup_append]
        exact ⟨hnd', by simp, fun a ha b hb e => by simp at hb; subst hb; subst e; exact hnew ha⟩
      · intro k
        show k ∈ B'.names ++ [x.Name] ↔ _
        rw [htk, List.map_append, List.mem_append, List.mem_append, hnm', or_assoc]
        rfl
      · intro a ha
        rw [htk] at ha
        rcases List.mem_append.1 ha with h | h
        · exact hsz a h
        · simp at h; subst h; exact hp0
  · have hi2 : i = c.Arrays.length := by omega
    subst hi2
    rw [List.take_length] at hnm' hsz
    repeat' (first
      | refine AW.seq ?_
      | (refine AW.region_at 25 ?_ <;> (first | refine AL.ev rfl rfl rfl rfl ?_ | refine AL.det (AOp.add rfl rfl (by omega)) rfl rfl rfl ?_ | refine AL.det (AOp.sub rfl rfl (by omega)) rfl rfl rfl ?_ | refine AL.det (AOp.bool_eq (by kernel_rfl) rfl rfl) rfl rfl rfl ?_ | refine AL.det (AOp.bool_ne (by kernel_rfl) rfl rfl) rfl rfl rfl ?_) <;> refine AL.nil ?_)
      | refine AW.cond_true rfl ?_
      | refine AW.cond_false rfl ?_
      | refine AW.block ?_
      | refine AW.endblk ?_
      | refine AW.skip ?_
      | refine AW.exit rfl ?_
      | refine AW.label ?_
      | refine AW.cond rfl (fun hb => ?_) (fun hb => ?_))
    all_goals try (exfalso; simp only [decide_eq_true_eq, decide_eq_false_iff_not, List.length_map] at *; omega)
    have hok : RunOk c s fuel := ⟨hbad, hval, hfound, hf, hsz⟩
    have hm := m0_fit hG hok hck B' hnd' fun k h => (hnm' k).2 h
    have e : msr c (arrR s (checkedP c) c.Arrays.reverse) = m0 c s := by rw [arrR_all hck (List.reverse_perm _)]; rfl
    rw [List.take_length, e]
    have h8 := run_t8 c s G fuel hc hok hck b ba bs r1 r2 r3 r4 gA B' hm Fr w0
    rw [hmb] at h8
    exact AW.prune [2, 3, 4, 5, 8, 9, 10, 11, 12, 15] h8
end Go.Proofs.Ytdedkpfbfklgbaa
