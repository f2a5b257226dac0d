/- Contracts: the bounds of the laws. -/
import Derived.Test.YtdedkpfbfklgbaaC7
namespace Go.Proofs.Ytdedkpfbfklgbaa
open Go.RowKit Go.SX
set_option maxRecDepth 100000
set_option linter.unusedVariables false
set_option linter.unusedSimpArgs false

def ownW (s : GStmt) : Int := 1 + s.Regs.length + s.Lit.At.length + ((s.Name.size : Int) + s.From.size + s.Lit.Name.size) / 50
mutual
def wgtS (most : Int) : GStmt → Int → Int
  | ⟨k, f, g, r, n, nm, fr, lit, regs, body, els⟩, a => wgtL most els (wgtL most body (a + ownW ⟨k, f, g, r, n, nm, fr, lit, regs, body, els⟩))
def wgtL (most : Int) : List GStmt → Int → Int
  | [], a => a
  | s :: l, a => if a ≤ most then wgtL most l (wgtS most s a) else a
end
theorem wgtS_eq (most : Int) (s : GStmt) (a : Int) : wgtS most s a = wgtL most s.Else (wgtL most s.Body (a + ownW s)) := by cases s; rfl
theorem ownW_le {s : GStmt} (h : s.Ok) : 1 ≤ ownW s ∧ ownW s ≤ 1099511627776000 := by
  obtain ⟨⟨_, _, _, _, _, h1, h2, h3, h4⟩, _⟩ := h
  obtain ⟨_, h5, h6⟩ := h3
  have := h4.1; have := h6.1
  unfold strOk at *
  unfold ownW
  omega
mutual
theorem wgtS_bd {most : Int} (hm : most ≤ 4611686018427387904) : ∀ (s : GStmt) (a : Int), s.Ok → 0 ≤ a → a ≤ most → 0 ≤ wgtS most s a ∧ wgtS most s a ≤ most + 1099511627776000
  | ⟨k, f, g, r, n, nm, fr, lit, regs, body, els⟩, a, h, h0, h1 => by
    have hw := ownW_le h
    rw [wgtS]
    obtain ⟨_, hb1, hb, he1, he⟩ := h
    have e1 := wgtL_bd hm body (a + ownW ⟨k, f, g, r, n, nm, fr, lit, regs, body, els⟩) hb (by omega) (by omega)
    exact wgtL_bd hm els _ he e1.1 e1.2
theorem wgtL_bd {most : Int} (hm : most ≤ 4611686018427387904) : ∀ (l : List GStmt) (a : Int), (∀ x ∈ l, x.Ok) → 0 ≤ a → a ≤ most + 1099511627776000 → 0 ≤ wgtL most l a ∧ wgtL most l a ≤ most + 1099511627776000
  | [], a, h, h0, h1 => by simp only [wgtL]; exact ⟨h0, h1⟩
  | s :: l, a, h, h0, h1 => by
    rw [wgtL]
    by_cases hc : a ≤ most
    · rw [if_pos hc]
      have e1 := wgtS_bd hm s a (h s (by simp)) h0 hc
      exact wgtL_bd hm l _ (fun x hx => h x (List.mem_cons_of_mem _ hx)) e1.1 e1.2
    · rw [if_neg hc]; exact ⟨h0, h1⟩
end
theorem law_weigh (most : Int) (hm : 0 ≤ most ∧ most ≤ 1000000) : ∀ (n : Nat) (l : List GStmt) (a : Int) (hn : cntL l ≤ n) (hl : l.length ≤ 4611686018427387904) (ho : ∀ x ∈ l, x.Ok) (h0 : 0 ≤ a) (h1 : a ≤ most + 1099511627776000),
    Tri Try.prog 11 [.sl (l.map GStmt.av), .int .i64 a, .int .i64 most] [] (D (.int .i64 (wgtL most l a)) []) := by
  intro n
  induction n using Nat.strongRecOn with
  | _ n ih =>
    intro l a hn hl ho h0 h1
    refine Tri.enter 74 Try.func11 rfl rfl rfl rfl fun Fr w0 => ?_
    repeat' (first
      | refine AW.seq ?_
      | (refine AW.region_at 0 ?_ <;> refine AL.ev rfl rfl rfl rfl ?_ <;> refine AL.nil ?_)
      | (refine AW.region_at 1 ?_ <;> refine AL.ev rfl rfl rfl rfl ?_ <;> refine AL.nil ?_)
      | refine AW.cond_true rfl ?_
      | refine AW.cond_false rfl ?_
      | refine AW.block ?_
      | refine AW.endblk ?_
      | refine AW.skip ?_
      | refine AW.exit rfl ?_
      | refine AW.label ?_
      | refine AW.cond rfl (fun hb => ?_) (fun hb => ?_))
    refine AW.prune [0, 1, 2, 7] (AW.loop (fun m af h => ∃ (i : Nat) (b : Int), i ≤ l.length ∧ m = l.length - i ∧ af = [(0, .sl (l.map GStmt.av)), (1, .int .i64 b), (2, .int .i64 most), (7, .int .i64 i)] ∧ h = [] ∧ 0 ≤ b ∧ b ≤ most + 1099511627776000 ∧ wgtL most l a = wgtL most (l.drop i) b) l.length ⟨0, a, Nat.zero_le _, rfl, rfl, rfl, h0, h1, rfl⟩ ?_)
    rintro m af h ⟨i, b, hi, rfl, rfl, rfl, g0, g1, he⟩
    refine AW.seq ?_
    by_cases hlt : i < l.length ∧ b ≤ most
    · obtain ⟨x, hx⟩ := get_lt hlt.1
      have hx' : (l.map GStmt.av)[((i : Nat) : Int).toNat]? = some x.st := GStmt.get hx
      have hxm := List.mem_of_getElem? hx
      have hxo := ho x hxm
      have hw := ownW_le hxo
      have hc := cnt_mem hxm
      have hc2 := cntS_eq x
      rw [drop_cons hx, wgtL, if_pos hlt.2, wgtS_eq] at he
      obtain ⟨⟨_, _, _, _, _, k1, k2, k3, k4⟩, kb1, kb, ke1, ke⟩ := hxo
      obtain ⟨_, k5, k6⟩ := k3
      have k7 := k4.1; have k8 := k6.1
      unfold strOk at k1 k2 k5
      have e1 := wgtL_bd (most := most) (by omega) x.Body (b + ownW x) kb (by omega) (by omega)
      have e2 := wgtL_bd (most := most) (by omega) x.Else _ ke e1.1 e1.2
      have c1 := ih (cntL x.Body) (by omega) x.Body (b + ownW x) (Nat.le_refl _) (by omega) kb (by omega) (by omega)
      have c2 := ih (cntL x.Else) (by omega) x.Else _ (Nat.le_refl _) (by omega) ke e1.1 e1.2
      have hq : b + 1 + ((x.Regs.map iav).length : Nat) + ((x.Lit.At.map iav).length : Nat) + ((x.Name.size : Int) + x.From.size + x.Lit.Name.size) / 50 = b + ownW x := by unfold ownW; simp; omega
      generalize wgtL most x.Body (b + ownW x) = r1 at *
      generalize wgtL most x.Else r1 = r2 at *
      rw [← hq] at c1
      have hlr : (x.Regs.map iav).length = x.Regs.length := List.length_map _
      have hla : (x.Lit.At.map iav).length = x.Lit.At.length := List.length_map _
      repeat' (first
        | refine AW.seq ?_
        | (refine AW.region_at 0 ?_ <;> refine AL.ev rfl rfl rfl rfl ?_ <;> refine AL.nil ?_)
        | (refine AW.region_at 1 ?_ <;> refine AL.ev rfl rfl rfl rfl ?_ <;> refine AL.nil ?_)
        | (refine AW.region_at 2 ?_ <;> refine AL.ev rfl rfl rfl rfl ?_ <;> refine AL.ev rfl rfl rfl rfl ?_ <;> refine AL.det (AOp.len rfl rfl (by kernel_rfl)) rfl rfl rfl ?_ <;> (first | refine AL.ev rfl rfl rfl rfl ?_ | refine AL.det (AOp.quo rfl rfl (by omega) (by omega)) rfl rfl rfl ?_ | refine AL.det (AOp.add rfl rfl (by omega)) rfl rfl rfl ?_ | refine AL.det (AOp.sub rfl rfl (by omega)) rfl rfl rfl ?_ | refine AL.det (AOp.bool_eq (by kernel_rfl) rfl rfl) rfl rfl rfl ?_ | refine AL.det (AOp.bool_ne (by kernel_rfl) rfl rfl) rfl rfl rfl ?_) <;> refine AL.ev rfl rfl rfl rfl ?_ <;> (first | (refine AL.guard_do rfl rfl rfl rfl ?_; refine AL.ev rfl rfl rfl rfl ?_) | refine AL.guard_skip rfl rfl rfl rfl rfl ?_ | refine AL.guard_undef rfl rfl rfl rfl ?_ | (refine AL.guard_split rfl rfl rfl (fun hb => ?_) (fun hb => ?_) <;> first | (refine AL.guard_do rfl rfl rfl rfl ?_; refine AL.ev rfl rfl rfl rfl ?_) | refine AL.guard_skip rfl rfl rfl rfl rfl ?_)) <;> (first | (refine AL.guard_do rfl rfl rfl rfl ?_; refine AL.ev rfl rfl rfl rfl ?_) | refine AL.guard_skip rfl rfl rfl rfl rfl ?_ | refine AL.guard_undef rfl rfl rfl rfl ?_ | (refine AL.guard_split rfl rfl rfl (fun hb => ?_) (fun hb => ?_) <;> first | (refine AL.guard_do rfl rfl rfl rfl ?_; refine AL.ev rfl rfl rfl rfl ?_) | refine AL.guard_skip rfl rfl rfl rfl rfl ?_)) <;> (first | (refine AL.guard_do rfl rfl rfl rfl ?_; (first | refine AL.ev rfl rfl rfl rfl ?_ | refine AL.det (AOp.quo rfl rfl (by omega) (by omega)) rfl rfl rfl ?_ | refine AL.det (AOp.add rfl rfl (by omega)) rfl rfl rfl ?_ | refine AL.det (AOp.sub rfl rfl (by omega)) rfl rfl rfl ?_ | refine AL.det (AOp.bool_eq (by kernel_rfl) rfl rfl) rfl rfl rfl ?_ | refine AL.det (AOp.bool_ne (by kernel_rfl) rfl rfl) rfl rfl rfl ?_)) | refine AL.guard_skip rfl rfl rfl rfl rfl ?_ | refine AL.guard_undef rfl rfl rfl rfl ?_ | (refine AL.guard_split rfl rfl rfl (fun hb => ?_) (fun hb => ?_) <;> first | (refine AL.guard_do rfl rfl rfl rfl ?_; (first | refine AL.ev rfl rfl rfl rfl ?_ | refine AL.det (AOp.quo rfl rfl (by omega) (by omega)) rfl rfl rfl ?_ | refine AL.det (AOp.add rfl rfl (by omega)) rfl rfl rfl ?_ | refine AL.det (AOp.sub rfl rfl (by omega)) rfl rfl rfl ?_ | refine AL.det (AOp.bool_eq (by kernel_rfl) rfl rfl) rfl rfl rfl ?_ | refine AL.det (AOp.bool_ne (by kernel_rfl) rfl rfl) rfl rfl rfl ?_)) | refine AL.guard_skip rfl rfl rfl rfl rfl ?_)) <;> refine AL.ev rfl rfl rfl rfl ?_ <;> refine AL.nil ?_)
        | (refine AW.draw_at 4 rfl (by kernel_rfl) (by kernel_rfl) ?_ <;> refine AQ.ev rfl rfl rfl rfl ?_ <;> refine AQ.ev rfl rfl rfl rfl ?_ <;> refine AQ.op rfl (AOp.index_sl rfl rfl (by omega) hx' (by kernel_rfl) rfl) rfl rfl ?_ <;> (first | refine AQ.op rfl (AOp.field_at rfl rfl (by kernel_rfl) rfl) rfl rfl ?_ | refine AQ.op rfl (AOp.field_ref (off := 13) rfl (by kernel_rfl)) rfl rfl ?_) <;> refine AQ.op rfl (AOp.load_at rfl rfl (by kernel_rfl)) rfl rfl ?_ <;> refine AQ.ev rfl rfl rfl rfl ?_ <;> refine AQ.ev rfl rfl rfl rfl ?_ <;> refine AQ.op rfl (AOp.index_sl rfl rfl (by omega) hx' (by kernel_rfl) rfl) rfl rfl ?_ <;> (first | refine AQ.op rfl (AOp.field_at rfl rfl (by kernel_rfl) rfl) rfl rfl ?_ | refine AQ.op rfl (AOp.field_ref (off := 12) rfl (by kernel_rfl)) rfl rfl ?_) <;> refine AQ.op rfl (AOp.load_at rfl rfl (by kernel_rfl)) rfl rfl ?_ <;> refine AQ.ev rfl rfl rfl rfl ?_ <;> (first | refine AQ.ev rfl rfl rfl rfl ?_ | refine AQ.op rfl (AOp.quo rfl rfl (by omega) (by omega)) rfl rfl ?_ | refine AQ.op rfl (AOp.add rfl rfl (by omega)) rfl rfl ?_ | refine AQ.op rfl (AOp.sub rfl rfl (by omega)) rfl rfl ?_ | refine AQ.op rfl (AOp.bool_eq (by kernel_rfl) rfl rfl) rfl rfl ?_ | refine AQ.op rfl (AOp.bool_ne (by kernel_rfl) rfl rfl) rfl rfl ?_) <;> refine AQ.ev rfl rfl rfl rfl ?_ <;> refine AQ.ev rfl rfl rfl rfl ?_ <;> refine AQ.op rfl (AOp.index_sl rfl rfl (by omega) hx' (by kernel_rfl) rfl) rfl rfl ?_ <;> (first | refine AQ.op rfl (AOp.field_at rfl rfl (by kernel_rfl) rfl) rfl rfl ?_ | refine AQ.op rfl (AOp.field_ref (off := 11) rfl (by kernel_rfl)) rfl rfl ?_) <;> refine AQ.op rfl (AOp.load_at rfl rfl (by kernel_rfl)) rfl rfl ?_ <;> refine AQ.op rfl (AOp.len rfl rfl (by kernel_rfl)) rfl rfl ?_ <;> (first | refine AQ.ev rfl rfl rfl rfl ?_ | refine AQ.op rfl (AOp.quo rfl rfl (by omega) (by omega)) rfl rfl ?_ | refine AQ.op rfl (AOp.add rfl rfl (by omega)) rfl rfl ?_ | refine AQ.op rfl (AOp.sub rfl rfl (by omega)) rfl rfl ?_ | refine AQ.op rfl (AOp.bool_eq (by kernel_rfl) rfl rfl) rfl rfl ?_ | refine AQ.op rfl (AOp.bool_ne (by kernel_rfl) rfl rfl) rfl rfl ?_) <;> refine AQ.ev rfl rfl rfl rfl ?_ <;> refine AQ.ev rfl rfl rfl rfl ?_ <;> refine AQ.op rfl (AOp.index_sl rfl rfl (by omega) hx' (by kernel_rfl) rfl) rfl rfl ?_ <;> (first | refine AQ.op rfl (AOp.field_at rfl rfl (by kernel_rfl) rfl) rfl rfl ?_ | refine AQ.op rfl (AOp.field_ref (off := 7) rfl (by kernel_rfl)) rfl rfl ?_) <;> (first | refine AQ.op rfl (AOp.field_at rfl rfl (by kernel_rfl) rfl) rfl rfl ?_ | refine AQ.op rfl (AOp.field_ref (off := 3) rfl (by kernel_rfl)) rfl rfl ?_) <;> refine AQ.op rfl (AOp.load_at rfl rfl (by kernel_rfl)) rfl rfl ?_ <;> refine AQ.op rfl (AOp.len rfl rfl (by kernel_rfl)) rfl rfl ?_ <;> (first | refine AQ.ev rfl rfl rfl rfl ?_ | refine AQ.op rfl (AOp.quo rfl rfl (by omega) (by omega)) rfl rfl ?_ | refine AQ.op rfl (AOp.add rfl rfl (by omega)) rfl rfl ?_ | refine AQ.op rfl (AOp.sub rfl rfl (by omega)) rfl rfl ?_ | refine AQ.op rfl (AOp.bool_eq (by kernel_rfl) rfl rfl) rfl rfl ?_ | refine AQ.op rfl (AOp.bool_ne (by kernel_rfl) rfl rfl) rfl rfl ?_) <;> refine AQ.ev rfl rfl rfl rfl ?_ <;> refine AQ.ev rfl rfl rfl rfl ?_ <;> refine AQ.op rfl (AOp.index_sl rfl rfl (by omega) hx' (by kernel_rfl) rfl) rfl rfl ?_ <;> (first | refine AQ.op rfl (AOp.field_at rfl rfl (by kernel_rfl) rfl) rfl rfl ?_ | refine AQ.op rfl (AOp.field_ref (off := 5) rfl (by kernel_rfl)) rfl rfl ?_) <;> refine AQ.op rfl (AOp.load_at rfl rfl (by kernel_rfl)) rfl rfl ?_ <;> refine AQ.op rfl (AOp.len rfl rfl (by kernel_rfl)) rfl rfl ?_ <;> refine AQ.ev rfl rfl rfl rfl ?_ <;> refine AQ.ev rfl rfl rfl rfl ?_ <;> refine AQ.op rfl (AOp.index_sl rfl rfl (by omega) hx' (by kernel_rfl) rfl) rfl rfl ?_ <;> (first | refine AQ.op rfl (AOp.field_at rfl rfl (by kernel_rfl) rfl) rfl rfl ?_ | refine AQ.op rfl (AOp.field_ref (off := 6) rfl (by kernel_rfl)) rfl rfl ?_) <;> refine AQ.op rfl (AOp.load_at rfl rfl (by kernel_rfl)) rfl rfl ?_ <;> refine AQ.op rfl (AOp.len rfl rfl (by kernel_rfl)) rfl rfl ?_ <;> (first | refine AQ.ev rfl rfl rfl rfl ?_ | refine AQ.op rfl (AOp.quo rfl rfl (by omega) (by omega)) rfl rfl ?_ | refine AQ.op rfl (AOp.add rfl rfl (by omega)) rfl rfl ?_ | refine AQ.op rfl (AOp.sub rfl rfl (by omega)) rfl rfl ?_ | refine AQ.op rfl (AOp.bool_eq (by kernel_rfl) rfl rfl) rfl rfl ?_ | refine AQ.op rfl (AOp.bool_ne (by kernel_rfl) rfl rfl) rfl rfl ?_) <;> refine AQ.ev rfl rfl rfl rfl ?_ <;> refine AQ.ev rfl rfl rfl rfl ?_ <;> refine AQ.op rfl (AOp.index_sl rfl rfl (by omega) hx' (by kernel_rfl) rfl) rfl rfl ?_ <;> (first | refine AQ.op rfl (AOp.field_at rfl rfl (by kernel_rfl) rfl) rfl rfl ?_ | refine AQ.op rfl (AOp.field_ref (off := 7) rfl (by kernel_rfl)) rfl rfl ?_) <;> (first | refine AQ.op rfl (AOp.field_at rfl rfl (by kernel_rfl) rfl) rfl rfl ?_ | refine AQ.op rfl (AOp.field_ref (off := 2) rfl (by kernel_rfl)) rfl rfl ?_) <;> refine AQ.op rfl (AOp.load_at rfl rfl (by kernel_rfl)) rfl rfl ?_ <;> refine AQ.op rfl (AOp.len rfl rfl (by kernel_rfl)) rfl rfl ?_ <;> (first | refine AQ.ev rfl rfl rfl rfl ?_ | refine AQ.op rfl (AOp.quo rfl rfl (by omega) (by omega)) rfl rfl ?_ | refine AQ.op rfl (AOp.add rfl rfl (by omega)) rfl rfl ?_ | refine AQ.op rfl (AOp.sub rfl rfl (by omega)) rfl rfl ?_ | refine AQ.op rfl (AOp.bool_eq (by kernel_rfl) rfl rfl) rfl rfl ?_ | refine AQ.op rfl (AOp.bool_ne (by kernel_rfl) rfl rfl) rfl rfl ?_) <;> (first | refine AQ.ev rfl rfl rfl rfl ?_ | refine AQ.op rfl (AOp.quo rfl rfl (by omega) (by omega)) rfl rfl ?_ | refine AQ.op rfl (AOp.add rfl rfl (by omega)) rfl rfl ?_ | refine AQ.op rfl (AOp.sub rfl rfl (by omega)) rfl rfl ?_ | refine AQ.op rfl (AOp.bool_eq (by kernel_rfl) rfl rfl) rfl rfl ?_ | refine AQ.op rfl (AOp.bool_ne (by kernel_rfl) rfl rfl) rfl rfl ?_) <;> (first | refine AQ.ev rfl rfl rfl rfl ?_ | refine AQ.op rfl (AOp.quo rfl rfl (by omega) (by omega)) rfl rfl ?_ | refine AQ.op rfl (AOp.add rfl rfl (by omega)) rfl rfl ?_ | refine AQ.op rfl (AOp.sub rfl rfl (by omega)) rfl rfl ?_ | refine AQ.op rfl (AOp.bool_eq (by kernel_rfl) rfl rfl) rfl rfl ?_ | refine AQ.op rfl (AOp.bool_ne (by kernel_rfl) rfl rfl) rfl rfl ?_) <;> refine AQ.ev rfl rfl rfl rfl ?_ <;> (first | refine AQ.op rfl (AOp.call rfl rfl c1) rfl rfl ?_ | refine AQ.op rfl (AOp.call rfl rfl c2) rfl rfl ?_) <;> refine AQ.ev rfl rfl rfl rfl ?_ <;> (first | refine AQ.op rfl (AOp.call rfl rfl c1) rfl rfl ?_ | refine AQ.op rfl (AOp.call rfl rfl c2) rfl rfl ?_) <;> refine AQ.ev rfl rfl rfl rfl ?_ <;> refine AQ.nil ?_)
        | (refine AW.region_at 3 ?_ <;> refine AL.ev rfl rfl rfl rfl ?_ <;> (first | refine AL.ev rfl rfl rfl rfl ?_ | refine AL.det (AOp.quo rfl rfl (by omega) (by omega)) rfl rfl rfl ?_ | refine AL.det (AOp.add rfl rfl (by omega)) rfl rfl rfl ?_ | refine AL.det (AOp.sub rfl rfl (by omega)) rfl rfl rfl ?_ | refine AL.det (AOp.bool_eq (by kernel_rfl) rfl rfl) rfl rfl rfl ?_ | refine AL.det (AOp.bool_ne (by kernel_rfl) rfl rfl) rfl rfl rfl ?_) <;> refine AL.ev rfl rfl rfl rfl ?_ <;> refine AL.nil ?_)
        | (refine AW.region_at 5 ?_ <;> refine AL.ev rfl rfl rfl rfl ?_ <;> refine AL.ev rfl rfl rfl rfl ?_ <;> refine AL.nil ?_)
        | refine AW.cond_true rfl ?_
        | refine AW.cond_false rfl ?_
        | refine AW.block ?_
        | refine AW.endblk ?_
        | refine AW.skip ?_
        | refine AW.exit rfl ?_
        | refine AW.label ?_
        | refine AW.cond rfl (fun hb => ?_) (fun hb => ?_))
      all_goals first
        | (exfalso; simp only [decide_eq_true_eq, decide_eq_false_iff_not, List.length_map] at *; omega)
        | exact AW.again_keep (l.length - (i + 1)) [0, 1, 2, 7] (by omega) ⟨i + 1, r2, hlt.1, rfl, rfl, rfl, e2.1, e2.2, he⟩
    · have he' : wgtL most l a = b := by
        rw [he]
        by_cases hd : i < l.length
        · obtain ⟨x, hx⟩ := get_lt hd
          rw [drop_cons hx, wgtL, if_neg (by omega)]
        · rw [List.drop_eq_nil_of_le (by omega), wgtL]
      repeat' (first
        | refine AW.seq ?_
        | (refine AW.region_at 2 ?_ <;> refine AL.ev rfl rfl rfl rfl ?_ <;> refine AL.ev rfl rfl rfl rfl ?_ <;> refine AL.det (AOp.len rfl rfl (by kernel_rfl)) rfl rfl rfl ?_ <;> (first | refine AL.ev rfl rfl rfl rfl ?_ | refine AL.det (AOp.add rfl rfl (by omega)) rfl rfl rfl ?_ | refine AL.det (AOp.sub rfl rfl (by omega)) rfl rfl rfl ?_ | refine AL.det (AOp.bool_eq (by kernel_rfl) rfl rfl) rfl rfl rfl ?_ | refine AL.det (AOp.bool_ne (by kernel_rfl) rfl rfl) rfl rfl rfl ?_) <;> refine AL.ev rfl rfl rfl rfl ?_ <;> (first | (refine AL.guard_do rfl rfl rfl rfl ?_; refine AL.ev rfl rfl rfl rfl ?_) | refine AL.guard_skip rfl rfl rfl rfl rfl ?_ | refine AL.guard_undef rfl rfl rfl rfl ?_ | (refine AL.guard_split rfl rfl rfl (fun hb => ?_) (fun hb => ?_) <;> first | (refine AL.guard_do rfl rfl rfl rfl ?_; refine AL.ev rfl rfl rfl rfl ?_) | refine AL.guard_skip rfl rfl rfl rfl rfl ?_)) <;> (first | (refine AL.guard_do rfl rfl rfl rfl ?_; refine AL.ev rfl rfl rfl rfl ?_) | refine AL.guard_skip rfl rfl rfl rfl rfl ?_ | refine AL.guard_undef rfl rfl rfl rfl ?_ | (refine AL.guard_split rfl rfl rfl (fun hb => ?_) (fun hb => ?_) <;> first | (refine AL.guard_do rfl rfl rfl rfl ?_; refine AL.ev rfl rfl rfl rfl ?_) | refine AL.guard_skip rfl rfl rfl rfl rfl ?_)) <;> (first | (refine AL.guard_do rfl rfl rfl rfl ?_; (first | refine AL.ev rfl rfl rfl rfl ?_ | refine AL.det (AOp.add rfl rfl (by omega)) rfl rfl rfl ?_ | refine AL.det (AOp.sub rfl rfl (by omega)) rfl rfl rfl ?_ | refine AL.det (AOp.bool_eq (by kernel_rfl) rfl rfl) rfl rfl rfl ?_ | refine AL.det (AOp.bool_ne (by kernel_rfl) rfl rfl) rfl rfl rfl ?_)) | refine AL.guard_skip rfl rfl rfl rfl rfl ?_ | refine AL.guard_undef rfl rfl rfl rfl ?_ | (refine AL.guard_split rfl rfl rfl (fun hb => ?_) (fun hb => ?_) <;> first | (refine AL.guard_do rfl rfl rfl rfl ?_; (first | refine AL.ev rfl rfl rfl rfl ?_ | refine AL.det (AOp.add rfl rfl (by omega)) rfl rfl rfl ?_ | refine AL.det (AOp.sub rfl rfl (by omega)) rfl rfl rfl ?_ | refine AL.det (AOp.bool_eq (by kernel_rfl) rfl rfl) rfl rfl rfl ?_ | refine AL.det (AOp.bool_ne (by kernel_rfl) rfl rfl) rfl rfl rfl ?_)) | refine AL.guard_skip rfl rfl rfl rfl rfl ?_)) <;> refine AL.ev rfl rfl rfl rfl ?_ <;> refine AL.nil ?_)
        | (refine AW.region_at 5 ?_ <;> refine AL.ev rfl rfl rfl rfl ?_ <;> refine AL.ev rfl rfl rfl rfl ?_ <;> refine AL.nil ?_)
        | refine AW.cond_true rfl ?_
        | refine AW.cond_false rfl ?_
        | refine AW.block ?_
        | refine AW.endblk ?_
        | refine AW.skip ?_
        | refine AW.exit rfl ?_
        | refine AW.label ?_
        | refine AW.cond rfl (fun hb => ?_) (fun hb => ?_))
      all_goals first
        | (exfalso; simp only [decide_eq_true_eq, decide_eq_false_iff_not, List.length_map] at *; omega)
        | exact AW.retv rfl ⟨by rw [he'], rfl⟩
end Go.Proofs.Ytdedkpfbfklgbaa
