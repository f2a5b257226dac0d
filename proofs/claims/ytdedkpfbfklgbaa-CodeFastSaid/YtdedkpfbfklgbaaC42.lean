/- Contracts: the example of the chapter. -/
import Derived.Test.YtdedkpfbfklgbaaC41
namespace Go.Proofs.Ytdedkpfbfklgbaa
open Go.RowKit Go.SX
set_option maxRecDepth 100000
set_option maxHeartbeats 4000000
set_option linter.unusedVariables false
set_option linter.unusedSimpArgs false

theorem law_edges : Tri Try.prog 12 [] [] (D edgesC.av []) := by
  refine Tri.enter 13 Try.func12 rfl rfl rfl rfl fun Fr w0 => ?_
  repeat' (first
    | refine AW.seq ?_
    | (refine AW.region_at 0 ?_ <;> refine AL.alloc_z (t := 25) (.st [.int .i64 0, .int .i64 0, .sl [], .sl []]) (by kernel_rfl) rfl rfl fun br => ?_ <;> refine AL.nil ?_)
    | refine AW.cond_true rfl ?_
    | refine AW.cond_false rfl ?_
    | refine AW.block ?_
    | refine AW.endblk ?_
    | refine AW.skip ?_
    | refine AW.exit rfl ?_
    | refine AW.label ?_
    | refine AW.cond rfl (fun hb => ?_) (fun hb => ?_))
  repeat' (first
    | refine AW.seq ?_
    | (refine AW.region_at 1 ?_ <;> refine AL.det (AOp.lit (t := 33) (e := 3) (sz := 1) (by kernel_rfl) rfl rfl rfl (by simp [AV.size, ofConst]) (by decide)) rfl rfl rfl ?_ <;> refine AL.det (AOp.build (pl := [(0, 1), (1, 1), (2, 1), (3, 1)]) (z := .st [.int .i64 0, .bool false, .str ⟨#[]⟩, .sl []]) (by kernel_rfl) rfl rfl rfl) rfl rfl rfl ?_ <;> refine AL.det (AOp.build (pl := [(0, 1), (1, 1), (2, 1), (3, 1), (4, 1), (5, 1), (6, 1), (7, 4), (11, 1), (12, 1), (13, 1)]) (z := .st [.int .i64 0, .int .i64 0, .int .i64 0, .int .i64 0, .int .i64 0, .str ⟨#[]⟩, .str ⟨#[]⟩, .st [.int .i64 0, .bool false, .str ⟨#[]⟩, .sl []], .sl [], .sl [], .sl []]) (by kernel_rfl) rfl rfl rfl) rfl rfl rfl ?_ <;> refine AL.alloc_store (by kernel_rfl) rfl rfl rfl rfl ?_ <;> refine AL.nil ?_)
    | refine AW.cond_true rfl ?_
    | refine AW.cond_false rfl ?_
    | refine AW.block ?_
    | refine AW.endblk ?_
    | refine AW.skip ?_
    | refine AW.exit rfl ?_
    | refine AW.label ?_
    | refine AW.cond rfl (fun hb => ?_) (fun hb => ?_))
  repeat' (first
    | refine AW.seq ?_
    | (refine AW.region_at 2 ?_ <;> (first | refine AL.det (AOp.load_at rfl rfl (by kernel_rfl)) rfl rfl rfl ?_ | refine AL.det (AOp.load_leaf 0 rfl rfl rfl rfl (by kernel_rfl)) rfl rfl rfl ?_ | refine AL.det (AOp.load_all 0 rfl rfl rfl (by kernel_rfl)) rfl rfl rfl ?_) <;> refine AL.det (AOp.build (pl := [(0, 1), (1, 1), (2, 1), (3, 1), (4, 1), (5, 1), (6, 1), (7, 4), (11, 1), (12, 1), (13, 1)]) (z := .st [.int .i64 0, .int .i64 0, .int .i64 0, .int .i64 0, .int .i64 0, .str ⟨#[]⟩, .str ⟨#[]⟩, .st [.int .i64 0, .bool false, .str ⟨#[]⟩, .sl []], .sl [], .sl [], .sl []]) (by kernel_rfl) rfl rfl rfl) rfl rfl rfl ?_ <;> refine AL.det (AOp.lit (t := 23) (e := 56) (sz := 14) (by kernel_rfl) rfl rfl rfl (by simp [AV.size, AV.sizes, ofConst]) (by decide)) rfl rfl rfl ?_ <;> refine AL.det (AOp.build (pl := [(0, 1), (1, 1), (2, 1), (3, 1), (4, 1), (5, 1), (6, 1), (7, 4), (11, 1), (12, 1), (13, 1)]) (z := .st [.int .i64 0, .int .i64 0, .int .i64 0, .int .i64 0, .int .i64 0, .str ⟨#[]⟩, .str ⟨#[]⟩, .st [.int .i64 0, .bool false, .str ⟨#[]⟩, .sl []], .sl [], .sl [], .sl []]) (by kernel_rfl) rfl rfl rfl) rfl rfl rfl ?_ <;> refine AL.det (AOp.lit (t := 23) (e := 56) (sz := 14) (by kernel_rfl) rfl rfl rfl (by simp [AV.size, AV.sizes, ofConst]) (by decide)) rfl rfl rfl ?_ <;> refine AL.det (AOp.build (pl := [(0, 1), (1, 1), (2, 1), (3, 1), (4, 1), (5, 1), (6, 1), (7, 4), (11, 1), (12, 1), (13, 1)]) (z := .st [.int .i64 0, .int .i64 0, .int .i64 0, .int .i64 0, .int .i64 0, .str ⟨#[]⟩, .str ⟨#[]⟩, .st [.int .i64 0, .bool false, .str ⟨#[]⟩, .sl []], .sl [], .sl [], .sl []]) (by kernel_rfl) rfl rfl rfl) rfl rfl rfl ?_ <;> refine AL.det (AOp.lit (t := 23) (e := 56) (sz := 14) (by kernel_rfl) rfl rfl rfl (by simp [AV.size, AV.sizes, ofConst]) (by decide)) rfl rfl rfl ?_ <;> refine AL.det (AOp.build (pl := [(0, 1), (1, 1), (2, 1), (3, 1)]) (z := .st [.int .i64 0, .int .i64 0, .sl [], .sl []]) (by kernel_rfl) rfl rfl rfl) rfl rfl rfl ?_ <;> refine AL.store_leaf 0 rfl rfl rfl rfl rfl (by kernel_rfl) ?_ <;> refine AL.nil ?_)
    | refine AW.cond_true rfl ?_
    | refine AW.cond_false rfl ?_
    | refine AW.block ?_
    | refine AW.endblk ?_
    | refine AW.skip ?_
    | refine AW.exit rfl ?_
    | refine AW.label ?_
    | refine AW.cond rfl (fun hb => ?_) (fun hb => ?_))
  exact AW.retc (.cell 0 rfl rfl (by kernel_rfl) .nil) (List.nil_sublist _) ⟨rfl, rfl⟩
theorem Ex.total {F R : Nat} {sig : ByteArray → Option Nat} (E : Env) : ∀ (n : Nat) (l : List GStmt), cntL l ≤ n → (∀ x ∈ l, SFit F R sig x) → ∀ m, m.steps ≤ E.fuel → ∃ o m', Ex E (.l l) m o m' := by
  intro n
  induction n using Nat.strongRecOn with
  | _ n ih =>
    intro l hn hl
    induction l with
    | nil => intro m _; exact ⟨none, m, .nil⟩
    | cons x l ihl =>
      intro m hm
      have hx := hl x (by simp)
      have hcs := cntS_eq x
      have hcl : cntL (x :: l) = cntS x + cntL l := rfl
      have hb := ih (cntL x.Body) (by omega) x.Body (Nat.le_refl _) hx.body
      have he := ih (cntL x.Else) (by omega) x.Else (Nat.le_refl _) hx.els
      have hs : ∀ u : MS, u.steps ≤ E.fuel → ∃ o m', Ex E (.s x) u o m' := by
        have hk := hx.fit.kind
        have hc : isPrim x.Kind ∨ x.Kind = 7 ∨ x.Kind = 8 ∨ x.Kind = 9 ∨ x.Kind = 10 ∨ x.Kind = 12 := by unfold isPrim; omega
        rcases hc with h | h | h | h | h | h
        · intro u _; exact ⟨_, _, .prim h⟩
        · have key : ∀ (j i : Nat), E.n.toNat - i = j → ∀ u : MS, u.steps ≤ E.fuel → ∃ o m', Ex E (.e x.R x.Body i) u o m' := by
            intro j
            induction j with
            | zero => intro i hi u hu; exact ⟨none, u, .eend (by omega)⟩
            | succ j ihj =>
              intro i hi u hu
              obtain ⟨o, m1, h1⟩ := hb (u.setR x.R i) hu
              cases o with
              | some e => exact ⟨_, _, .ebad (by omega) h1⟩
              | none =>
                obtain ⟨o, m2, h2⟩ := ihj (i + 1) (by omega) m1 (h1.grow.2.2.1 hu)
                exact ⟨_, _, .estep (by omega) h1 h2⟩
          intro u hu
          obtain ⟨o, m', h1⟩ := key _ 0 rfl u hu
          exact ⟨_, _, .each h h1⟩
        · intro u hu
          by_cases hf : flagAt u.flags x.F = true
          · obtain ⟨o, m', h1⟩ := hb u hu
            exact ⟨_, _, .cond h (by rw [if_pos hf]; exact h1)⟩
          · obtain ⟨o, m', h1⟩ := he u hu
            exact ⟨_, _, .cond h (by rw [if_neg hf]; exact h1)⟩
        · have key : ∀ (k : Nat) (u : MS), u.steps ≤ E.fuel → ∃ o m', Ex E (.t x.Body k) u o m' := by
            intro k
            induction k with
            | zero => intro u hu; obtain ⟨o, m', h1⟩ := hb u hu; exact ⟨_, _, .tz h1⟩
            | succ k ihk =>
              have key2 : ∀ (j : Nat) (u : MS), u.steps ≤ E.fuel → ∃ o m', Ex E (.r x.Body k j) u o m' := by
                intro j
                induction j with
                | zero => intro u hu; exact ⟨none, u, .rz⟩
                | succ j ihj =>
                  intro u hu
                  obtain ⟨o, m1, h1⟩ := ihk u hu
                  cases o with
                  | some e => exact ⟨_, _, .rbad h1⟩
                  | none =>
                    obtain ⟨o, m2, h2⟩ := ihj m1 (h1.grow.2.2.1 hu)
                    exact ⟨_, _, .rstep h1 h2⟩
              intro u hu
              obtain ⟨o, m', h1⟩ := key2 E.n.toNat u hu
              exact ⟨_, _, .ts h1⟩
          intro u hu
          by_cases h0 : x.Body = []
          · exact ⟨_, _, .t0 h h0⟩
          · obtain ⟨o, m', h1⟩ := key x.N.toNat u hu
            exact ⟨_, _, .t1 h h0 h1⟩
        · have key : ∀ (j : Nat) (u : MS), (E.fuel - u.steps).toNat = j → u.steps ≤ E.fuel → ∃ o m', Ex E (.s x) u o m' := by
            intro j
            induction j using Nat.strongRecOn with
            | _ j ihj =>
              intro u hj hu
              obtain ⟨o, m1, h1⟩ := hb u hu
              have g := h1.grow
              have g3 := g.2.2.1 hu
              cases o with
              | some e => exact ⟨_, _, .ubad h h1⟩
              | none =>
                by_cases hf : flagAt m1.flags x.F = true
                · exact ⟨_, _, .uend h h1 hf⟩
                · have hf' : flagAt m1.flags x.F = false := by simpa using hf
                  by_cases hs : m1.steps < E.fuel
                  · have hst : m1.step.steps = m1.steps + 1 := rfl
                    obtain ⟨o, m2, h2⟩ := ihj (E.fuel - m1.step.steps).toNat (by omega) m1.step rfl (by omega)
                    exact ⟨_, _, .ustep h h1 hf' hs h2⟩
                  · exact ⟨_, _, .ustop h h1 hf' hs⟩
          intro u hu
          exact key _ u rfl hu
        · intro u hu
          by_cases hg : (E.G.length : Int) - u.used < (u.rels x.Name).length
          · exact ⟨_, _, .gbad h hg⟩
          · exact ⟨_, _, .gok h hg⟩
      by_cases h1 : m.steps < E.fuel
      · obtain ⟨o, m1, h2⟩ := hs m.step (by show m.steps + 1 ≤ _; omega)
        cases o with
        | some e => exact ⟨_, _, .bad h1 h2⟩
        | none =>
          obtain ⟨o, m2, h3⟩ := ihl (by omega) (fun y hy => hl y (by simp [hy])) m1 (h2.grow.2.2.1 (by show m.steps + 1 ≤ _; omega))
          exact ⟨_, _, .cons h1 h2 h3⟩
      · exact ⟨_, _, .stop h1⟩
theorem RunR.total (c : GCode) (s : GStr) (G : List Bool) (fuel : Int) : ∃ b n g e, RunR c s G fuel b n g e := by
  by_cases h1 : (checkedP c).bad = true
  · exact ⟨_, _, _, _, .form (.inl h1)⟩
  have h1 : (checkedP c).bad = false := by simpa using h1
  by_cases h2 : validStr s = true
  · by_cases h3 : ∀ p ∈ (checkedP c).S, 0 ≤ findI s p.1 p.2
    · by_cases h4 : 0 ≤ fuel ∧ fuel ≤ 10000000
      · by_cases h5 : ∀ a ∈ c.Arrays, (powerR s.Size a.Arity).2 = 0
        · have hok : RunOk c s fuel := ⟨h1, h2, h3, h4, h5⟩
          obtain ⟨o, m, hx⟩ := Ex.total ⟨s.Size, G, fuel⟩ (cntL c.Body) c.Body (Nat.le_refl _) (chk_ok h1).body (m0 c s) h4.1
          cases o with
          | none => exact ⟨_, _, _, _, .ok hok hx⟩
          | some e => exact ⟨_, _, _, _, .stop hok hx⟩
        · have : ∃ a ∈ c.Arrays, (powerR s.Size a.Arity).2 ≠ 0 := by
            apply Classical.byContradiction
            intro hc
            exact h5 fun a ha => Classical.byContradiction fun hn => hc ⟨a, ha, hn⟩
          obtain ⟨a, ha, h⟩ := this
          exact ⟨_, _, _, _, .size h1 h2 h3 h4 a ha h⟩
      · exact ⟨_, _, _, _, .arg h1 h2 h3 (by omega)⟩
    · have : ∃ p ∈ (checkedP c).S, findI s p.1 p.2 < 0 := by
        apply Classical.byContradiction
        intro hc
        exact h3 fun p hp => Classical.byContradiction fun hn => hc ⟨p, hp, by omega⟩
      obtain ⟨p, hp, h⟩ := this
      exact ⟨_, _, _, _, .name h1 h2 p hp h⟩
  · exact ⟨_, _, _, _, .form (.inr (by simpa using h2))⟩
theorem RunR.det {c : GCode} {s : GStr} {G : List Bool} {fuel : Int} {b b' : Bool} {n n' g g' e e' : Int} (h : RunR c s G fuel b n g e) (k : RunR c s G fuel b' n' g' e') : b = b' ∧ n = n' ∧ g = g' ∧ e = e' := by
  cases h with
  | form h =>
    cases k with
    | form k => exact ⟨rfl, rfl, rfl, rfl⟩
    | ok k _ => rcases h with h | h; rw [k.bad] at h; cases h; rw [k.valid] at h; cases h
    | stop k _ => rcases h with h | h; rw [k.bad] at h; cases h; rw [k.valid] at h; cases h
    | _ => simp_all
  | name h1 h2 p hp h =>
    cases k with
    | name => exact ⟨rfl, rfl, rfl, rfl⟩
    | form k => simp_all
    | arg k1 k2 k3 k => have := k3 p hp; omega
    | size k1 k2 k3 k4 a ha k => have := k3 p hp; omega
    | ok k _ => have := k.found p hp; omega
    | stop k _ => have := k.found p hp; omega
  | arg h1 h2 h3 h =>
    cases k with
    | arg => exact ⟨rfl, rfl, rfl, rfl⟩
    | form k => simp_all
    | name k1 k2 p hp k => have := h3 p hp; omega
    | size k1 k2 k3 k4 a ha k => omega
    | ok k _ => have := k.fuel; omega
    | stop k _ => have := k.fuel; omega
  | size h1 h2 h3 h4 a ha h =>
    cases k with
    | size => exact ⟨rfl, rfl, rfl, rfl⟩
    | form k => simp_all
    | name k1 k2 p hp k => have := h3 p hp; omega
    | arg k1 k2 k3 k => omega
    | ok k _ => exact absurd (k.size a ha) h
    | stop k _ => exact absurd (k.size a ha) h
  | ok h hx =>
    cases k with
    | ok k kx => obtain ⟨_, rfl⟩ := hx.det kx; exact ⟨rfl, rfl, rfl, rfl⟩
    | stop k kx => exact absurd (hx.det kx).1 (by simp)
    | form k => rcases k with k | k; rw [h.bad] at k; cases k; rw [h.valid] at k; cases k
    | name k1 k2 p hp k => have := h.found p hp; omega
    | arg k1 k2 k3 k => have := h.fuel; omega
    | size k1 k2 k3 k4 a ha k => exact absurd (h.size a ha) k
  | stop h hx =>
    cases k with
    | ok k kx => exact absurd (hx.det kx).1 (by simp)
    | stop k kx => obtain ⟨e, _⟩ := hx.det kx; cases e; exact ⟨rfl, rfl, rfl, rfl⟩
    | form k => rcases k with k | k; rw [h.bad] at k; cases k; rw [h.valid] at k; cases k
    | name k1 k2 p hp k => have := h.found p hp; omega
    | arg k1 k2 k3 k => have := h.fuel; omega
    | size k1 k2 k3 k4 a ha k => exact absurd (h.size a ha) k
theorem Tri.forget {P : Program} {f : FuncId} {args : List AV} {Ψ : AEnd → Prop} (h : Tri P f args [] (fun x _ => Ψ x)) : Tri P f args [] (fun x h => Ψ x ∧ h = []) := by
  refine ⟨h.1, fun Fr w vs hst hrel => (h.2 Fr w vs hst hrel).mono fun e w' => ?_⟩
  rintro ⟨x, ah', hΨ, he, hs, hx, hn⟩
  have hsub := List.nil_sublist ah'
  refine ⟨x, [], ⟨hΨ, rfl⟩, ?_, hs.sub hsub, hx, fun b o _ hr => ?_⟩
  · cases x with
    | ret v => obtain ⟨u, e1, e2⟩ := he; exact ⟨u, e1, e2.mv (Mv.same w' fun b o hs => hs.elim .inl fun hr => .inr (reg_sub hsub hr))⟩
    | pan v => obtain ⟨u, e1, e2⟩ := he; exact ⟨u, e1, e2.mv (Mv.same w' fun b o hs => hs.elim .inl fun hr => .inr (reg_sub hsub hr))⟩
  · obtain ⟨y, hy, _⟩ := hr; cases hy
theorem code_RunD (c : GCode) (s : GStr) (G : List Bool) (fuel : Int) (hc : c.Ok) (hs : s.Ok) (hG : G.length ≤ 4611686018427387904) : ∃ b n g e, RunR c s G fuel b n g e ∧ Tri Try.prog 10 [c.av, s.av, bools G, .int .i64 fuel] [] (D (.tup [.bool b, .int .i64 n, .int .i64 g, .int .i64 e]) []) := by
  obtain ⟨b, n, g, e, h⟩ := RunR.total c s G fuel
  refine ⟨b, n, g, e, h, ((Tri.forget (code_RunC c s G fuel hc hs hG)).mono ?_)⟩
  rintro x a ⟨⟨b', n', g', e', h', rfl⟩, rfl⟩
  obtain ⟨rfl, rfl, rfl, rfl⟩ := h.det h'
  exact ⟨rfl, rfl⟩
end Go.Proofs.Ytdedkpfbfklgbaa
