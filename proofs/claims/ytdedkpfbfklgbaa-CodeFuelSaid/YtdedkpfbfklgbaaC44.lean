/- The plain law of CodeFuel. -/
import Derived.Test.YtdedkpfbfklgbaaC43
namespace Go.Proofs.Ytdedkpfbfklgbaa
open Go.RowKit Go.SX
set_option maxRecDepth 100000
set_option maxHeartbeats 4000000
set_option linter.unusedVariables false
set_option linter.unusedSimpArgs false

theorem Ex.err {E : Env} {T : Task} {m : MS} {o : Option Int} {m' : MS} (h : Ex E T m o m') : ∀ e, o = some e → e = 7 ∨ e = 2 := by
  induction h with
  | stop h => intro e he; cases he; exact .inl rfl
  | gbad h h1 => intro e he; cases he; exact .inr rfl
  | ustop h h1 h2 h3 ih => intro e he; cases he; exact .inl rfl
  | nil => intro e he; cases he
  | prim => intro e he; cases he
  | gok => intro e he; cases he
  | eend => intro e he; cases he
  | t0 => intro e he; cases he
  | rz => intro e he; cases he
  | uend => intro e he; cases he
  | bad h h1 ih => exact ih
  | cons h h1 h2 ih1 ih2 => exact ih2
  | each h h1 ih => exact ih
  | ebad h h1 ih => exact ih
  | estep h h1 h2 ih1 ih2 => exact ih2
  | cond h h1 ih => exact ih
  | t1 h h1 h2 ih => exact ih
  | tz h1 ih => exact ih
  | ts h1 ih => exact ih
  | rbad h1 ih => exact ih
  | rstep h1 h2 ih1 ih2 => exact ih2
  | ubad h h1 ih => exact ih
  | ustep h h1 h2 h3 h4 ih1 ih2 => exact ih2
section
variable {c : GCode} {s : GStr} {G : List Bool} {fuel : Int} {b : Bool} {n g e : Int}
theorem RunR.bad (h : RunR c s G fuel b n g e) (he : e ≠ 0) : b = false ∧ n = 0 ∧ g = 0 := by
  cases h with
  | ok => exact absurd rfl he
  | _ => exact ⟨rfl, rfl, rfl⟩
theorem RunR.good (h : RunR c s G fuel b n g 0) : RunOk c s fuel ∧ ∃ m, Ex ⟨s.Size, G, fuel⟩ (.l c.Body) (m0 c s) none m ∧ b = flagAt m.flags 0 ∧ n = m.steps ∧ g = m.used := by
  cases h with
  | ok h hx => exact ⟨h, _, hx, rfl, rfl, rfl⟩
  | stop h hx => have := hx.err 0 rfl; omega
theorem RunR.bounds (h : RunR c s G fuel b n g 0) : 0 ≤ n ∧ n ≤ fuel ∧ 0 ≤ g ∧ g ≤ G.length ∧ fuel ≤ 10000000 := by
  obtain ⟨hok, m, hx, rfl, rfl, rfl⟩ := h.good
  have hg := hx.grow
  have e1 : (m0 c s).steps = 0 := rfl
  have e2 : (m0 c s).used = 0 := rfl
  have := hok.fuel
  have h3 := hg.2.2.1 (by show (m0 c s).steps ≤ fuel; omega)
  have h4 := hg.2.2.2 (by rw [e2]; omega)
  exact ⟨by omega, h3, by omega, h4, this.2⟩
theorem RunR.more (h : RunR c s G fuel b n g 0) {G' : List Bool} {fuel' : Int} {b' : Bool} {n' g' e' : Int} (k : RunR c s G' fuel' b' n' g' e') (ht : G'.take g.toNat = G.take g.toNat) (hl : g ≤ G'.length) (hf : n ≤ fuel') (hf2 : fuel' ≤ 10000000) : b' = b ∧ n' = n ∧ g' = g ∧ e' = 0 := by
  have hb := h.bounds
  obtain ⟨hok, m, hx, rfl, rfl, rfl⟩ := h.good
  have hx' : Ex ⟨s.Size, G', fuel'⟩ (.l c.Body) (m0 c s) none m := hx.other rfl rfl hf hl hb.2.2.2.1 (Int.le_refl _) ht
  have hok' : RunOk c s fuel' := ⟨hok.bad, hok.valid, hok.found, ⟨by omega, hf2⟩, hok.size⟩
  obtain ⟨r1, r2, r3, r4⟩ := k.det (.ok hok' hx')
  exact ⟨r1, r2, r3, r4⟩
theorem RunR.less (h : RunR c s G fuel b n g 0) (hn : 1 ≤ n) {b' : Bool} {n' g' e' : Int} (k : RunR c s G (n - 1) b' n' g' e') : e' = 7 := by
  have hb := h.bounds
  obtain ⟨hok, m, hx, rfl, rfl, rfl⟩ := h.good
  obtain ⟨m'', hx'⟩ := hx.short (E' := ⟨s.Size, G, m.steps - 1⟩) rfl rfl rfl (by show (0 : Int) ≤ m.steps - 1; omega) (by show m.steps - 1 < m.steps; omega) (Int.le_refl _) hb.2.2.2.1
  have hok' : RunOk c s (m.steps - 1) := ⟨hok.bad, hok.valid, hok.found, ⟨by omega, by omega⟩, hok.size⟩
  exact (k.det (.stop hok' hx')).2.2.2
end
end Go.Proofs.Ytdedkpfbfklgbaa
