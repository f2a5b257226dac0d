/- Contracts: statements checked. DRAFT: does not build whole yet. -/
import Derived.Test.YtdedkpfbfklgbaaC13
namespace Go.Proofs.Ytdedkpfbfklgbaa
open Go.RowKit Go.SX
set_option maxRecDepth 100000
set_option linter.unusedVariables false
set_option linter.unusedSimpArgs false

def Chk.flag (st : Chk) (f : Int) : Chk := st.need (decide (0 ≤ f) && decide (f < st.c.Flags))
/-- What a statement's own fields are checked for. -/
def Chk.flds (st : Chk) (s : GStmt) : Chk :=
  let u := useOf s.Kind
  let st := st.need (zeroB s)
  let st := if u.f then st.flag s.F else st
  let st := if u.g && decide (s.Kind ≠ 4) then st.flag s.G else st
  let st := if s.Kind = 4 then st.need (decide (s.G = 0) || decide (s.G = 1)) else st
  let st := if u.r then st.regs [s.R] else st
  let st := st.need (decide (0 ≤ s.N) && decide (s.N ≤ 12))
  let st := if u.lit then st.lit s.Lit else st
  let st := st.regs s.Regs
  let n := (lookA st.A s.Name).getD 0
  let is := (lookA st.A s.Name).isSome
  let st := st.need (!u.name || is)
  let st := st.need (!u.regs || decide (n = s.Regs.length))
  if u.frm then st.need ((lookA st.A s.From).isSome && decide (n = (lookA st.A s.From).getD 0)) else st
def Chk.enter (st : Chk) (s : GStmt) (level : Int) : Chk :=
  ({ st with cnt := st.cnt + 1 } : Chk).need (decide (0 ≤ s.Kind) && decide (s.Kind < 15) && decide (st.cnt + 1 ≤ 20000) && decide (level ≤ 60))
mutual
def stmtP : GStmt → Int → Chk → Chk
  | ⟨k, f, g, r, n, nm, fr, lit, regs, body, els⟩, level, st =>
    let s1 := st.enter ⟨k, f, g, r, n, nm, fr, lit, regs, body, els⟩ level
    if s1.bad then s1 else
      let s2 := s1.flds ⟨k, f, g, r, n, nm, fr, lit, regs, body, els⟩
      let p := listP body (level + 1) s2
      if p.2 then p.1 else (listP els (level + 1) p.1).1
/-- With whether it stopped. -/
def listP : List GStmt → Int → Chk → Chk × Bool
  | [], _, st => (st, false)
  | x :: l, level, st => let s1 := stmtP x level st; if s1.bad then (s1, true) else listP l level s1
end
theorem stmtP_eq (s : GStmt) (level : Int) (st : Chk) : stmtP s level st = (let s1 := st.enter s level; if s1.bad then s1 else let p := listP s.Body (level + 1) (s1.flds s); if p.2 then p.1 else (listP s.Else (level + 1) p.1).1) := by cases s; rfl
theorem Chk.regs_cnt : ∀ (l : List Int) (st : Chk), (st.regs l).cnt = st.cnt
  | [], st => rfl
  | r :: l, st => by rw [Chk.regs, Chk.regs_cnt l]; rfl
theorem Chk.lit_cnt (st : Chk) (l : GLit) : (st.lit l).cnt = st.cnt := by
  unfold Chk.lit
  simp only
  split
  · exact st.regs_cnt l.At
  · split
    · exact st.regs_cnt l.At
    · exact st.regs_cnt l.At
theorem Chk.flds_cnt (st : Chk) (s : GStmt) : (st.flds s).cnt = st.cnt := by
  have hif : ∀ (c : Prop) [Decidable c] (a b : Chk) (n : Int), a.cnt = n → b.cnt = n → (if c then a else b).cnt = n := fun c _ a b n h1 h2 => by split <;> assumption
  unfold Chk.flds
  simp only
  refine hif _ _ _ _ ?_ ?_
  all_goals simp only [Chk.need, Chk.regs_cnt]
  all_goals (refine hif _ _ _ _ ?_ ?_)
  all_goals (try rw [Chk.lit_cnt])
  all_goals (refine hif _ _ _ _ ?_ ?_)
  all_goals (try rw [Chk.regs_cnt])
  all_goals (refine hif _ _ _ _ ?_ ?_)
  all_goals (try simp only [Chk.need])
  all_goals (refine hif _ _ _ _ ?_ ?_)
  all_goals (try simp only [Chk.flag, Chk.need])
  all_goals (refine hif _ _ _ _ ?_ ?_)
  all_goals rfl
mutual
theorem stmtP_cnt : ∀ (s : GStmt) (level : Int) (st : Chk), 0 ≤ st.cnt → st.cnt ≤ 20000 → 0 ≤ (stmtP s level st).cnt ∧ (stmtP s level st).cnt ≤ 20001 ∧ ((stmtP s level st).bad = false → (stmtP s level st).cnt ≤ 20000)
  | ⟨k, f, g, r, n, nm, fr, lit, regs, body, els⟩, level, st, h0, h1 => by
    rw [stmtP]
    try simp only
    generalize hs1 : st.enter ⟨k, f, g, r, n, nm, fr, lit, regs, body, els⟩ level = s1
    have hc : s1.cnt = st.cnt + 1 := by rw [← hs1]; rfl
    by_cases hb : s1.bad = true
    · rw [if_pos hb]; exact ⟨by omega, by omega, fun h => by rw [hb] at h; cases h⟩
    · rw [if_neg hb]
      have hle : st.cnt + 1 ≤ 20000 := by
        rw [← hs1] at hb
        simp only [Chk.enter, Chk.need, Bool.not_eq_true, Bool.or_eq_false_iff, Bool.not_eq_false', Bool.and_eq_true, decide_eq_true_eq] at hb
        exact hb.2.1.2
      have hf := s1.flds_cnt ⟨k, f, g, r, n, nm, fr, lit, regs, body, els⟩
      generalize s1.flds ⟨k, f, g, r, n, nm, fr, lit, regs, body, els⟩ = s2 at hf ⊢
      have e1 := listP_cnt body (level + 1) s2 (by omega) (by omega)
      by_cases hp : (listP body (level + 1) s2).2 = true
      · rw [if_pos hp]; exact ⟨e1.1, e1.2.1, e1.2.2.1⟩
      · rw [if_neg hp]
        have e2 := listP_cnt els (level + 1) _ e1.1 (e1.2.2.2 (by simpa using hp))
        exact ⟨e2.1, e2.2.1, e2.2.2.1⟩
theorem listP_cnt : ∀ (l : List GStmt) (level : Int) (st : Chk), 0 ≤ st.cnt → st.cnt ≤ 20000 → 0 ≤ (listP l level st).1.cnt ∧ (listP l level st).1.cnt ≤ 20001 ∧ ((listP l level st).1.bad = false → (listP l level st).1.cnt ≤ 20000) ∧ ((listP l level st).2 = false → (listP l level st).1.cnt ≤ 20000)
  | [], level, st, h0, h1 => by rw [listP]; exact ⟨h0, by show st.cnt ≤ _; omega, fun _ => h1, fun _ => h1⟩
  | x :: l, level, st, h0, h1 => by
    have e1 := stmtP_cnt x level st h0 h1
    rw [listP]
    try simp only
    by_cases hb : (stmtP x level st).bad = true
    · rw [if_pos hb]; exact ⟨e1.1, e1.2.1, e1.2.2, fun h => by cases h⟩
    · rw [if_neg hb]
      exact listP_cnt l level _ e1.1 (e1.2.2 (by simpa using hb))
end
end Go.Proofs.Ytdedkpfbfklgbaa
