/- Courses computed; the example of the chapter. -/
import Derived.Test.YtdedkpfbfklgbaaC40
import Derived.Test.YtdedkpfbfklgbaaC35
namespace Go.Proofs.Ytdedkpfbfklgbaa
open Go.RowKit Go.SX
set_option maxRecDepth 100000
set_option maxHeartbeats 4000000
set_option linter.unusedVariables false
set_option linter.unusedSimpArgs false

def thenE (r : Option (Option Int × MS)) (k : MS → Option (Option Int × MS)) : Option (Option Int × MS) :=
  match r with
  | some (none, m) => k m
  | r => r
/-- The course, computed within some depth. -/
def ev (E : Env) : Nat → Task → MS → Option (Option Int × MS)
  | 0, _, _ => none
  | d + 1, .l [], m => some (none, m)
  | d + 1, .l (x :: xs), m => if m.steps < E.fuel then thenE (ev E d (.s x) m.step) fun m1 => ev E d (.l xs) m1 else some (some 7, m)
  | d + 1, .s x, m =>
    if x.Kind = 7 then ev E d (.e x.R x.Body 0) m
    else if x.Kind = 8 then ev E d (.l (if flagAt m.flags x.F = true then x.Body else x.Else)) m
    else if (0 ≤ x.Kind ∧ x.Kind ≤ 6) ∨ x.Kind = 11 ∨ x.Kind = 13 ∨ x.Kind = 14 then some (none, prim E.n x m)
    else none
  | d + 1, .e r xs i, m => if (i : Int) < E.n then thenE (ev E d (.l xs) (m.setR r i)) fun m1 => ev E d (.e r xs (i + 1)) m1 else some (none, m)
  | _ + 1, _, _ => none
theorem thenE_some {r : Option (Option Int × MS)} {k : MS → Option (Option Int × MS)} {o : Option Int} {m : MS} (h : thenE r k = some (o, m)) : (∃ e, r = some (some e, m) ∧ o = some e) ∨ ∃ m1, r = some (none, m1) ∧ k m1 = some (o, m) := by
  match r, h with
  | none, h => cases h
  | some (none, m1), h => exact .inr ⟨m1, rfl, h⟩
  | some (some e, m1), h => simp only [thenE, Option.some.injEq, Prod.mk.injEq] at h; exact .inl ⟨e, by rw [h.2], h.1.symm⟩
theorem ev_ex (E : Env) : ∀ (d : Nat) (T : Task) (m : MS) (o : Option Int) (m' : MS), ev E d T m = some (o, m') → Ex E T m o m' := by
  intro d
  induction d with
  | zero => intro T m o m' h; cases h
  | succ d ih =>
    intro T m o m' h
    cases T with
    | l xs =>
      cases xs with
      | nil => simp only [ev, Option.some.injEq, Prod.mk.injEq] at h; obtain ⟨rfl, rfl⟩ := h; exact .nil
      | cons x xs =>
        simp only [ev] at h
        split at h
        · rename_i hs
          rcases thenE_some h with ⟨e, h1, rfl⟩ | ⟨m1, h1, h2⟩
          · exact .bad hs (ih _ _ _ _ h1)
          · exact .cons hs (ih _ _ _ _ h1) (ih _ _ _ _ h2)
        · rename_i hs
          simp only [Option.some.injEq, Prod.mk.injEq] at h
          obtain ⟨rfl, rfl⟩ := h
          exact .stop hs
    | s x =>
      simp only [ev] at h
      split at h
      · rename_i hk; exact .each hk (ih _ _ _ _ h)
      · split at h
        · rename_i hk; exact .cond hk (ih _ _ _ _ h)
        · split at h
          · rename_i hk
            simp only [Option.some.injEq, Prod.mk.injEq] at h
            obtain ⟨rfl, rfl⟩ := h
            exact .prim (by unfold isPrim; omega)
          · cases h
    | e r xs i =>
      simp only [ev] at h
      split at h
      · rename_i hs
        rcases thenE_some h with ⟨e, h1, rfl⟩ | ⟨m1, h1, h2⟩
        · exact .ebad hs (ih _ _ _ _ h1)
        · exact .estep hs (ih _ _ _ _ h1) (ih _ _ _ _ h2)
      · rename_i hs
        simp only [Option.some.injEq, Prod.mk.injEq] at h
        obtain ⟨rfl, rfl⟩ := h
        exact .eend hs
    | t xs k => cases h
    | r xs k j => cases h
def nameE : ByteArray := ⟨#[69]⟩
def noLit : GLit := ⟨0, false, ⟨#[]⟩, []⟩
def edgesC : GCode := ⟨2, 2, [], [⟨7, 0, 0, 0, 0, ⟨#[]⟩, ⟨#[]⟩, noLit, [], [⟨7, 0, 0, 1, 0, ⟨#[]⟩, ⟨#[]⟩, noLit, [], [⟨0, 1, 0, 0, 0, ⟨#[]⟩, ⟨#[]⟩, ⟨0, false, nameE, [0, 1]⟩, [], [], []⟩, ⟨3, 0, 1, 0, 0, ⟨#[]⟩, ⟨#[]⟩, noLit, [], [], []⟩], []⟩], []⟩]⟩
def edgesS : GStr := ⟨2, [⟨nameE, 2, [[0, 1]]⟩]⟩
theorem edges_bad : (checkedP edgesC).bad = false := by kernel_rfl
theorem edges_S : (checkedP edgesC).S = [(nameE, 2)] := by kernel_rfl
theorem edges_valid : validStr edgesS = true := by kernel_rfl
theorem edges_find : findI edgesS nameE 2 = 0 := by kernel_rfl
theorem edges_ev : (ev ⟨2, [], 100⟩ 40 (.l edgesC.Body) (m0 edgesC edgesS)).map (fun r => (r.1, flagAt r.2.flags 0, r.2.steps)) = some (none, true, 11) := by kernel_rfl
theorem edges_time : timeR edgesC = ([1, 1, 2], 0) := by
  have h1 : untilB edgesC.Body = false := by kernel_rfl
  have h2 : timeL edgesC.Body [] = [1, 1, 2] := by kernel_rfl
  rw [timeR, if_neg (by rw [edges_bad]; simp), if_neg (by rw [h1]; simp), h2, if_neg (by simp)]
theorem edges_run {b : Bool} {n g e : Int} (h : RunR edgesC edgesS [] 100 b n g e) : b = true ∧ n = 11 ∧ e = 0 := by
  have hok : RunOk edgesC edgesS 100 := ⟨edges_bad, edges_valid, by rw [edges_S]; intro p hp; simp at hp; subst hp; rw [edges_find]; omega, by omega, by intro a ha; cases ha⟩
  have he := edges_ev
  obtain ⟨o, m', hm⟩ : ∃ o m', ev ⟨2, [], 100⟩ 40 (.l edgesC.Body) (m0 edgesC edgesS) = some (o, m') := by
    cases hv : ev ⟨2, [], 100⟩ 40 (.l edgesC.Body) (m0 edgesC edgesS) with
    | none => rw [hv] at he; cases he
    | some r => exact ⟨r.1, r.2, rfl⟩
  rw [hm] at he
  simp only [Option.map_some, Option.some.injEq, Prod.mk.injEq] at he
  obtain ⟨rfl, h2, h3⟩ := he
  have hx := ev_ex _ _ _ _ _ _ hm
  cases h with
  | form h => rcases h with h | h
              · rw [edges_bad] at h; cases h
              · rw [edges_valid] at h; cases h
  | name h1 h2' p hp h => have := hok.found p hp; omega
  | arg h1 h2' h3' h => omega
  | size h1 h2' h3' h4 a ha h => cases ha
  | ok h hx2 =>
    obtain ⟨_, rfl⟩ := hx.det hx2
    exact ⟨h2, h3, rfl⟩
  | stop h hx2 => exact absurd (hx.det hx2).1 (by simp)
end Go.Proofs.Ytdedkpfbfklgbaa
