/- The machine's course: the plain laws. -/
import Derived.Test.YtdedkpfbfklgbaaC20
namespace Go.Proofs.Ytdedkpfbfklgbaa
open Go.RowKit Go.SX
set_option maxRecDepth 100000
set_option maxHeartbeats 4000000
set_option linter.unusedVariables false
set_option linter.unusedSimpArgs false

theorem Ex.det {E : Env} {T : Task} {m : MS} {o1 : Option Int} {m1 : MS} (h : Ex E T m o1 m1) : ∀ {o2 : Option Int} {m2 : MS}, Ex E T m o2 m2 → o1 = o2 ∧ m1 = m2 := by
  induction h with
  | nil => intro o2 m2 h2; cases h2; exact ⟨rfl, rfl⟩
  | stop h => intro o2 m2 h2; cases h2 <;> first | exact ⟨rfl, rfl⟩ | contradiction
  | bad h h1 ih =>
    intro o2 m2 h2
    cases h2 with
    | stop h' => contradiction
    | bad h' h1' => exact ih h1'
    | cons h' h1' h2' => exact absurd (ih h1').1 (by simp)
  | cons h h1 h2 ih1 ih2 =>
    intro o2 m2 h3
    cases h3 with
    | stop h' => contradiction
    | bad h' h1' => exact absurd (ih1 h1').1 (by simp)
    | cons h' h1' h2' => obtain ⟨_, rfl⟩ := ih1 h1'; exact ih2 h2'
  | prim h => intro o2 m2 h2; cases h2 <;> first | exact ⟨rfl, rfl⟩ | (exfalso; (try unfold isPrim at *); omega)
  | gbad h h1 => intro o2 m2 h2; cases h2 <;> first | exact ⟨rfl, rfl⟩ | contradiction | (exfalso; (try unfold isPrim at *); omega)
  | gok h h1 => intro o2 m2 h2; cases h2 <;> first | exact ⟨rfl, rfl⟩ | contradiction | (exfalso; (try unfold isPrim at *); omega)
  | each h h1 ih => intro o2 m2 h2; cases h2 <;> first | (exact ih (by assumption)) | (exfalso; (try unfold isPrim at *); omega)
  | eend h => intro o2 m2 h2; cases h2 <;> first | exact ⟨rfl, rfl⟩ | contradiction
  | ebad h h1 ih =>
    intro o2 m2 h2
    cases h2 with
    | eend h' => contradiction
    | ebad h' h1' => exact ih h1'
    | estep h' h1' h2' => exact absurd (ih h1').1 (by simp)
  | estep h h1 h2 ih1 ih2 =>
    intro o2 m2 h3
    cases h3 with
    | eend h' => contradiction
    | ebad h' h1' => exact absurd (ih1 h1').1 (by simp)
    | estep h' h1' h2' => obtain ⟨_, rfl⟩ := ih1 h1'; exact ih2 h2'
  | cond h h1 ih => intro o2 m2 h2; cases h2 <;> first | (exact ih (by assumption)) | (exfalso; (try unfold isPrim at *); omega)
  | t0 h h1 => intro o2 m2 h2; cases h2 <;> first | exact ⟨rfl, rfl⟩ | contradiction | (exfalso; (try unfold isPrim at *); omega)
  | t1 h h1 h2 ih => intro o2 m2 h3; cases h3 <;> first | (exact ih (by assumption)) | contradiction | (exfalso; (try unfold isPrim at *); omega)
  | tz h1 ih => intro o2 m2 h2; cases h2; exact ih (by assumption)
  | ts h1 ih => intro o2 m2 h2; cases h2; exact ih (by assumption)
  | rz => intro o2 m2 h2; cases h2; exact ⟨rfl, rfl⟩
  | rbad h1 ih =>
    intro o2 m2 h2
    cases h2 with
    | rbad h1' => exact ih h1'
    | rstep h1' h2' => exact absurd (ih h1').1 (by simp)
  | rstep h1 h2 ih1 ih2 =>
    intro o2 m2 h3
    cases h3 with
    | rbad h1' => exact absurd (ih1 h1').1 (by simp)
    | rstep h1' h2' => obtain ⟨_, rfl⟩ := ih1 h1'; exact ih2 h2'
  | ubad h h1 ih =>
    intro o2 m2 h2
    cases h2 with
    | ubad h' h1' => exact ih h1'
    | uend h' h1' h2' => exact absurd (ih h1').1 (by simp)
    | ustop h' h1' h2' h3' => exact absurd (ih h1').1 (by simp)
    | ustep h' h1' h2' h3' h4' => exact absurd (ih h1').1 (by simp)
    | _ => exfalso; (try unfold isPrim at *); omega
  | uend h h1 h2 ih =>
    intro o2 m2 h3
    cases h3 with
    | ubad h' h1' => exact absurd (ih h1').1 (by simp)
    | uend h' h1' h2' => exact ⟨rfl, (ih h1').2⟩
    | ustop h' h1' h2' h3' => obtain ⟨_, rfl⟩ := ih h1'; rw [h2] at h2'; cases h2'
    | ustep h' h1' h2' h3' h4' => obtain ⟨_, rfl⟩ := ih h1'; rw [h2] at h2'; cases h2'
    | _ => exfalso; (try unfold isPrim at *); omega
  | ustop h h1 h2 h3 ih =>
    intro o2 m2 h4
    cases h4 with
    | ubad h' h1' => exact absurd (ih h1').1 (by simp)
    | uend h' h1' h2' => obtain ⟨_, rfl⟩ := ih h1'; rw [h2] at h2'; cases h2'
    | ustop h' h1' h2' h3' => exact ⟨rfl, (ih h1').2⟩
    | ustep h' h1' h2' h3' h4' => obtain ⟨_, rfl⟩ := ih h1'; contradiction
    | _ => exfalso; (try unfold isPrim at *); omega
  | ustep h h1 h2 h3 h4 ih1 ih2 =>
    intro o2 m2 h5
    cases h5 with
    | ubad h' h1' => exact absurd (ih1 h1').1 (by simp)
    | uend h' h1' h2' => obtain ⟨_, rfl⟩ := ih1 h1'; rw [h2] at h2'; cases h2'
    | ustop h' h1' h2' h3' => obtain ⟨_, rfl⟩ := ih1 h1'; contradiction
    | ustep h' h1' h2' h3' h4' => obtain ⟨_, rfl⟩ := ih1 h1'; exact ih2 h4'
    | _ => exfalso; (try unfold isPrim at *); omega
theorem prim_same (n : Int) (s : GStmt) (m : MS) : (prim n s m).steps = m.steps ∧ (prim n s m).used = m.used := by
  have hif : ∀ (c : Prop) [Decidable c] (a b : MS), (a.steps = m.steps ∧ a.used = m.used) → (b.steps = m.steps ∧ b.used = m.used) → ((if c then a else b).steps = m.steps ∧ (if c then a else b).used = m.used) := fun c _ a b h1 h2 => by split <;> assumption
  unfold prim
  exact hif _ _ _ ⟨rfl, rfl⟩ (hif _ _ _ ⟨rfl, rfl⟩ (hif _ _ _ ⟨rfl, rfl⟩ (hif _ _ _ ⟨rfl, rfl⟩ (hif _ _ _ ⟨rfl, rfl⟩ (hif _ _ _ ⟨rfl, rfl⟩ (hif _ _ _ ⟨rfl, rfl⟩ (hif _ _ _ ⟨rfl, rfl⟩ (hif _ _ _ ⟨rfl, rfl⟩ ⟨rfl, rfl⟩))))))))
/-- Steps and guesses only grow, within their bounds. -/
theorem Ex.grow {E : Env} {T : Task} {m : MS} {o : Option Int} {m' : MS} (h : Ex E T m o m') : m.steps ≤ m'.steps ∧ m.used ≤ m'.used ∧ (m.steps ≤ E.fuel → m'.steps ≤ E.fuel) ∧ (m.used ≤ E.G.length → m'.used ≤ E.G.length) := by
  induction h with
  | prim h => rename_i x m; have := prim_same E.n x m; omega
  | gok h h1 => rename_i x m; simp only [MS.guess]; omega
  | bad h h1 ih => simp only [MS.step] at ih; omega
  | cons h h1 h2 ih1 ih2 => simp only [MS.step] at ih1; omega
  | ebad h h1 ih => simp only [MS.setR] at ih; omega
  | estep h h1 h2 ih1 ih2 => simp only [MS.setR] at ih1; omega
  | ustep h h1 h2 h3 h4 ih1 ih2 => simp only [MS.step] at ih2; omega
  | _ => omega
/-- A course that ends needs no more than it took. -/
theorem Ex.other {E : Env} {T : Task} {m : MS} {o : Option Int} {m' : MS} (h : Ex E T m o m') : ∀ {E' : Env}, E'.n = E.n → o = none → m'.steps ≤ E'.fuel → m'.used ≤ E'.G.length → m'.used ≤ E.G.length → 0 ≤ m.used → E'.G.take m'.used.toNat = E.G.take m'.used.toNat → Ex E' T m none m' := by
  have tk : ∀ (G G' : List Bool) (a b : Nat), a ≤ b → G'.take b = G.take b → G'.take a = G.take a := fun G G' a b hab e => by
    rw [← Nat.min_eq_left hab, ← List.take_take, e, List.take_take]
  induction h with
  | nil => intro E' hn ho hf hg hg2 h0 he; exact .nil
  | stop h => intro E' hn ho; cases ho
  | bad h h1 ih => intro E' hn ho; cases ho
  | cons h h1 h2 ih1 ih2 =>
    intro E' hn ho hf hg hg2 h0 he
    have g1 := h1.grow
    have g2 := h2.grow
    simp only [MS.step] at g1
    refine .cons (by omega) (ih1 hn rfl (by omega) (by omega) (by omega) h0 (tk _ _ _ _ (by omega) he)) (ho ▸ ih2 hn ho hf hg hg2 (by omega) he)
  | prim h => intro E' hn ho hf hg hg2 h0 he; rw [← hn]; exact .prim h
  | gbad h h1 => intro E' hn ho; cases ho
  | gok h h1 =>
    intro E' hn ho hf hg hg2 h0 he
    rename_i x m
    simp only [MS.guess] at hg hg2 he
    have e : m.guess E.G x = m.guess E'.G x := by
      simp only [MS.guess]
      have h3 : (E.G.drop m.used.toNat).take (m.rels x.Name).length = (E'.G.drop m.used.toNat).take (m.rels x.Name).length := by
        have h4 : ∀ G : List Bool, (G.drop m.used.toNat).take (m.rels x.Name).length = (G.take (m.used + (m.rels x.Name).length).toNat).drop m.used.toNat := fun G => by
          rw [List.take_drop]; congr 2; omega
        rw [h4, h4, he]
      rw [h3]
    rw [e]
    exact .gok h (by omega)
  | each h h1 ih => intro E' hn ho hf hg hg2 h0 he; exact .each h (ih hn ho hf hg hg2 h0 he)
  | eend h => intro E' hn ho hf hg hg2 h0 he; exact .eend (by rw [hn]; exact h)
  | ebad h h1 ih => intro E' hn ho; cases ho
  | estep h h1 h2 ih1 ih2 =>
    intro E' hn ho hf hg hg2 h0 he
    have g1 := h1.grow
    have g2 := h2.grow
    simp only [MS.setR] at g1
    exact .estep (by rw [hn]; exact h) (ih1 hn rfl (by omega) (by omega) (by omega) h0 (tk _ _ _ _ (by omega) he)) (ih2 hn ho hf hg hg2 (by omega) he)
  | cond h h1 ih => intro E' hn ho hf hg hg2 h0 he; exact .cond h (ih hn ho hf hg hg2 h0 he)
  | t0 h h1 => intro E' hn ho hf hg hg2 h0 he; exact .t0 h h1
  | t1 h h1 h2 ih => intro E' hn ho hf hg hg2 h0 he; exact .t1 h h1 (ih hn ho hf hg hg2 h0 he)
  | tz h1 ih => intro E' hn ho hf hg hg2 h0 he; exact .tz (ih hn ho hf hg hg2 h0 he)
  | ts h1 ih => intro E' hn ho hf hg hg2 h0 he; exact .ts (by rw [hn]; exact ih hn ho hf hg hg2 h0 he)
  | rz => intro E' hn ho hf hg hg2 h0 he; exact .rz
  | rbad h1 ih => intro E' hn ho; cases ho
  | rstep h1 h2 ih1 ih2 =>
    intro E' hn ho hf hg hg2 h0 he
    have g1 := h1.grow
    have g2 := h2.grow
    exact .rstep (ih1 hn rfl (by omega) (by omega) (by omega) h0 (tk _ _ _ _ (by omega) he)) (ih2 hn ho hf hg hg2 (by omega) he)
  | ubad h h1 ih => intro E' hn ho; cases ho
  | uend h h1 h2 ih => intro E' hn ho hf hg hg2 h0 he; exact .uend h (ih hn ho hf hg hg2 h0 he) h2
  | ustop h h1 h2 h3 ih => intro E' hn ho; cases ho
  | ustep h h1 h2 h3 h4 ih1 ih2 =>
    intro E' hn ho hf hg hg2 h0 he
    have g1 := h1.grow
    have g2 := h4.grow
    simp only [MS.step] at g2
    exact .ustep h (ih1 hn rfl (by omega) (by omega) (by omega) h0 (tk _ _ _ _ (by omega) he)) h2 (by omega) (ih2 hn ho hf hg hg2 (by show 0 ≤ _; simp only [MS.step]; omega) he)
/-- With less fuel than it takes it stops for want of fuel. -/
theorem Ex.short {E : Env} {T : Task} {m : MS} {o : Option Int} {m' : MS} (h : Ex E T m o m') : ∀ {E' : Env}, E'.n = E.n → E'.G = E.G → o = none → m.steps ≤ E'.fuel → E'.fuel < m'.steps → 0 ≤ m.used → m'.used ≤ E.G.length → ∃ m'', Ex E' T m (some 7) m'' := by
  have same : ∀ {E E' : Env} {T : Task} {m m' : MS}, Ex E T m none m' → E'.n = E.n → E'.G = E.G → m'.steps ≤ E'.fuel → 0 ≤ m.used → m'.used ≤ E.G.length → Ex E' T m none m' := fun h hn hG hf h0 hu => h.other hn rfl hf (by rw [hG]; exact hu) hu h0 (by rw [hG])
  induction h with
  | nil => intro E' hn hG ho hf hg; omega
  | stop h => intro E' hn hG ho; cases ho
  | bad h h1 ih => intro E' hn hG ho; cases ho
  | cons h h1 h2 ih1 ih2 =>
    intro E' hn hG ho hf hg h0 hu
    have g1 := h1.grow
    have g2 := h2.grow
    simp only [MS.step] at g1
    rename_i x xs m m1 o m2
    by_cases hs : m.steps < E'.fuel
    · by_cases hl : m1.steps ≤ E'.fuel
      · obtain ⟨m'', h3⟩ := ih2 hn hG ho hl hg (by omega) hu
        exact ⟨m'', .cons hs (same h1 hn hG hl h0 (by omega)) h3⟩
      · obtain ⟨m'', h3⟩ := ih1 hn hG rfl (by simp only [MS.step]; omega) (by omega) h0 (by omega)
        exact ⟨m'', .bad hs h3⟩
    · exact ⟨_, .stop hs⟩
  | prim h => intro E' hn hG ho hf hg; rename_i x m; have := prim_same E.n x m; omega
  | gbad h h1 => intro E' hn hG ho; cases ho
  | gok h h1 => intro E' hn hG ho hf hg; simp only [MS.guess] at hg; omega
  | each h h1 ih => intro E' hn hG ho hf hg h0 hu; obtain ⟨m'', h3⟩ := ih hn hG ho hf hg h0 hu; exact ⟨m'', .each h h3⟩
  | eend h => intro E' hn hG ho hf hg; omega
  | ebad h h1 ih => intro E' hn hG ho; cases ho
  | estep h h1 h2 ih1 ih2 =>
    intro E' hn hG ho hf hg h0 hu
    have g1 := h1.grow
    have g2 := h2.grow
    simp only [MS.setR] at g1
    rename_i r xs m m1 o m2 i
    by_cases hl : m1.steps ≤ E'.fuel
    · obtain ⟨m'', h3⟩ := ih2 hn hG ho hl hg (by omega) hu
      exact ⟨m'', .estep (by rw [hn]; exact h) (same h1 hn hG hl h0 (by omega)) h3⟩
    · obtain ⟨m'', h3⟩ := ih1 hn hG rfl hf (by omega) h0 (by omega)
      exact ⟨m'', .ebad (by rw [hn]; exact h) h3⟩
  | cond h h1 ih => intro E' hn hG ho hf hg h0 hu; obtain ⟨m'', h3⟩ := ih hn hG ho hf hg h0 hu; exact ⟨m'', .cond h h3⟩
  | t0 h h1 => intro E' hn hG ho hf hg; omega
  | t1 h h1 h2 ih => intro E' hn hG ho hf hg h0 hu; obtain ⟨m'', h3⟩ := ih hn hG ho hf hg h0 hu; exact ⟨m'', .t1 h h1 h3⟩
  | tz h1 ih => intro E' hn hG ho hf hg h0 hu; obtain ⟨m'', h3⟩ := ih hn hG ho hf hg h0 hu; exact ⟨m'', .tz h3⟩
  | ts h1 ih => intro E' hn hG ho hf hg h0 hu; obtain ⟨m'', h3⟩ := ih hn hG ho hf hg h0 hu; exact ⟨m'', .ts (by rw [hn]; exact h3)⟩
  | rz => intro E' hn hG ho hf hg; omega
  | rbad h1 ih => intro E' hn hG ho; cases ho
  | rstep h1 h2 ih1 ih2 =>
    intro E' hn hG ho hf hg h0 hu
    have g1 := h1.grow
    have g2 := h2.grow
    rename_i xs k j m m1 o m2
    by_cases hl : m1.steps ≤ E'.fuel
    · obtain ⟨m'', h3⟩ := ih2 hn hG ho hl hg (by omega) hu
      exact ⟨m'', .rstep (same h1 hn hG hl h0 (by omega)) h3⟩
    · obtain ⟨m'', h3⟩ := ih1 hn hG rfl hf (by omega) h0 (by omega)
      exact ⟨m'', .rbad h3⟩
  | ubad h h1 ih => intro E' hn hG ho; cases ho
  | uend h h1 h2 ih => intro E' hn hG ho hf hg h0 hu; obtain ⟨m'', h3⟩ := ih hn hG rfl hf hg h0 hu; exact ⟨m'', .ubad h h3⟩
  | ustop h h1 h2 h3 ih => intro E' hn hG ho; cases ho
  | ustep h h1 h2 h3 h4 ih1 ih2 =>
    intro E' hn hG ho hf hg h0 hu
    have g1 := h1.grow
    have g2 := h4.grow
    simp only [MS.step] at g2
    rename_i x m m1 o m2
    by_cases hl : m1.steps ≤ E'.fuel
    · by_cases hs : m1.steps < E'.fuel
      · obtain ⟨m'', h5⟩ := ih2 hn hG ho (by simp only [MS.step]; omega) hg (by show 0 ≤ _; simp only [MS.step]; omega) hu
        exact ⟨m'', .ustep h (same h1 hn hG hl h0 (by omega)) h2 hs h5⟩
      · exact ⟨_, .ustop h (same h1 hn hG hl h0 (by omega)) h2 hs⟩
    · obtain ⟨m'', h5⟩ := ih1 hn hG rfl hf (by omega) h0 (by omega)
      exact ⟨m'', .ubad h h5⟩
end Go.Proofs.Ytdedkpfbfklgbaa
