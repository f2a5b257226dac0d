/- Contracts: search in statements. -/
import Derived.Test.YtdedkpfbfklgbaaProg
import Derived.Test.YtdedkpfbfklgbaaS2
namespace Go.Proofs.Ytdedkpfbfklgbaa
open Go.RowKit Go.SX
set_option maxRecDepth 100000
set_option linter.unusedVariables false

def idxFrom {α : Type} (p : α → Bool) : List α → Nat → Int
  | [], _ => -1
  | x :: xs, k => if p x then k else idxFrom p xs (k + 1)
theorem idxFrom_lt {α : Type} {p : α → Bool} : ∀ (xs : List α) (k : Nat), (idxFrom p xs k ≥ 0) = (xs.any p = true)
  | [], k => by simp [idxFrom]
  | x :: xs, k => by
    simp only [idxFrom, List.any_cons]
    by_cases h : p x = true
    · simp [h]
    · have := idxFrom_lt (p := p) xs (k + 1)
      simp only [h, Bool.false_eq_true, if_false, Bool.false_or]
      simpa using this

theorem IndexFunc_Stmt (xs : List GStmt) (hl : xs.length ≤ 4611686018427387904) (fid : FuncId) (caps : List AV) (p : GStmt → Bool) (hf : ∀ x ∈ xs, Tri Try.prog fid (x.st :: caps) [] (D (.bool (p x)) [])) :
    Tri Try.prog 64 [.sl (xs.map GStmt.av), .fn fid caps] [] (D (.int .i64 (idxFrom p xs 0)) []) := by
  refine Tri.enter 19 Try.func64 rfl rfl rfl rfl fun Fr w0 => ?_
  repeat (first
    | refine AL.ev rfl rfl rfl rfl ?_
    | refine AW.seq ?_
    | refine AL.nil ?_
    | refine AW.region ?_
    | refine AL.det (AOp.load_at rfl rfl (by kernel_rfl)) rfl rfl rfl ?_
    | refine AL.det (AOp.field_at rfl rfl (by kernel_rfl) rfl) rfl rfl rfl ?_
    | refine AL.det (AOp.len rfl rfl (by kernel_rfl)) rfl rfl rfl ?_
    | refine AL.det (AOp.field_ref rfl (by kernel_rfl)) rfl rfl rfl ?_
    | refine AL.guard_do rfl rfl rfl rfl ?_
    | refine AL.guard_skip rfl rfl rfl rfl rfl ?_
    | refine AW.cond_true rfl ?_
    | refine AW.cond_false rfl ?_
    | refine AW.block ?_
    | refine AW.endblk ?_
    | refine AW.skip ?_
    | refine AW.exit rfl ?_
    | refine AW.label ?_
    | refine AL.det (AOp.add rfl rfl (by omega)) rfl rfl rfl ?_
    | refine AL.det (AOp.sub rfl rfl (by omega)) rfl rfl rfl ?_
    | refine AL.det (AOp.max2 rfl rfl) rfl rfl rfl ?_
    | refine AL.det (AOp.min2 rfl rfl) rfl rfl rfl ?_
    | refine AL.det (AOp.bool_eq (by kernel_rfl) rfl rfl) rfl rfl rfl ?_
    | refine AL.det (AOp.bool_ne (by kernel_rfl) rfl rfl) rfl rfl rfl ?_
    | refine AL.det (AOp.build (by kernel_rfl) rfl rfl rfl) rfl rfl rfl ?_)
  refine AW.prune [0, 1, 7, 8] (AW.loop (fun m af h => ∃ k : Nat, k ≤ xs.length ∧ m = xs.length - k ∧ af = [(0, .sl (xs.map GStmt.av)), (1, .fn fid caps), (7, .int .i64 (xs.map GStmt.av).length), (8, .int .i64 k)] ∧ h = [] ∧ idxFrom p xs 0 = idxFrom p (xs.drop k) k) xs.length ⟨0, Nat.zero_le _, rfl, rfl, rfl, rfl⟩ ?_)
  rintro m af h ⟨k, hk, rfl, rfl, rfl, hp⟩
  repeat (first
    | refine AL.ev rfl rfl rfl rfl ?_
    | refine AW.seq ?_
    | refine AL.nil ?_
    | refine AW.region ?_
    | refine AL.det (AOp.load_at rfl rfl (by kernel_rfl)) rfl rfl rfl ?_
    | refine AL.det (AOp.field_at rfl rfl (by kernel_rfl) rfl) rfl rfl rfl ?_
    | refine AL.det (AOp.len rfl rfl (by kernel_rfl)) rfl rfl rfl ?_
    | refine AL.det (AOp.field_ref rfl (by kernel_rfl)) rfl rfl rfl ?_
    | refine AL.guard_do rfl rfl rfl rfl ?_
    | refine AL.guard_skip rfl rfl rfl rfl rfl ?_
    | refine AW.cond_true rfl ?_
    | refine AW.cond_false rfl ?_
    | refine AW.block ?_
    | refine AW.endblk ?_
    | refine AW.skip ?_
    | refine AW.exit rfl ?_
    | refine AW.label ?_
    | refine AL.det (AOp.add rfl rfl (by omega)) rfl rfl rfl ?_
    | refine AL.det (AOp.sub rfl rfl (by omega)) rfl rfl rfl ?_
    | refine AL.det (AOp.max2 rfl rfl) rfl rfl rfl ?_
    | refine AL.det (AOp.min2 rfl rfl) rfl rfl rfl ?_
    | refine AL.det (AOp.bool_eq (by kernel_rfl) rfl rfl) rfl rfl rfl ?_
    | refine AL.det (AOp.bool_ne (by kernel_rfl) rfl rfl) rfl rfl rfl ?_
    | refine AL.det (AOp.build (by kernel_rfl) rfl rfl rfl) rfl rfl rfl ?_)
  refine AW.cond rfl (fun hb => ?_) (fun hb => ?_)
  · have hlt : k < xs.length := by simpa using hb
    obtain ⟨x, hx⟩ := get_lt hlt
    have hx' : (xs.map GStmt.av)[((k : Nat) : Int).toNat]? = some x.st := GStmt.get hx
    have hc := hf x (List.mem_of_getElem? hx)
    repeat (first
      | refine AL.det (AOp.index_sl rfl rfl (by omega) hx' (by kernel_rfl) rfl) rfl rfl rfl ?_
      | refine AL.det (AOp.call rfl rfl hc) rfl rfl rfl ?_
      | refine AL.ev rfl rfl rfl rfl ?_
      | refine AW.seq ?_
      | refine AL.nil ?_
      | refine AW.region ?_
      | refine AL.det (AOp.load_at rfl rfl (by kernel_rfl)) rfl rfl rfl ?_
      | refine AL.det (AOp.field_at rfl rfl (by kernel_rfl) rfl) rfl rfl rfl ?_
      | refine AL.det (AOp.len rfl rfl (by kernel_rfl)) rfl rfl rfl ?_
      | refine AL.det (AOp.field_ref rfl (by kernel_rfl)) rfl rfl rfl ?_
      | refine AL.guard_do rfl rfl rfl rfl ?_
      | refine AL.guard_skip rfl rfl rfl rfl rfl ?_
      | refine AW.cond_true rfl ?_
      | refine AW.cond_false rfl ?_
      | refine AW.block ?_
      | refine AW.endblk ?_
      | refine AW.skip ?_
      | refine AW.exit rfl ?_
      | refine AW.label ?_
      | refine AL.det (AOp.add rfl rfl (by omega)) rfl rfl rfl ?_
      | refine AL.det (AOp.sub rfl rfl (by omega)) rfl rfl rfl ?_
      | refine AL.det (AOp.max2 rfl rfl) rfl rfl rfl ?_
      | refine AL.det (AOp.min2 rfl rfl) rfl rfl rfl ?_
      | refine AL.det (AOp.bool_eq (by kernel_rfl) rfl rfl) rfl rfl rfl ?_
      | refine AL.det (AOp.bool_ne (by kernel_rfl) rfl rfl) rfl rfl rfl ?_
      | refine AL.det (AOp.build (by kernel_rfl) rfl rfl rfl) rfl rfl rfl ?_)
    rw [drop_cons hx] at hp
    simp only [idxFrom] at hp
    refine AW.cond rfl (fun hb => ?_) (fun hb => ?_)
    · repeat (first
        | refine AL.ev rfl rfl rfl rfl ?_
        | refine AW.seq ?_
        | refine AL.nil ?_
        | refine AW.region ?_
        | refine AL.det (AOp.load_at rfl rfl (by kernel_rfl)) rfl rfl rfl ?_
        | refine AL.det (AOp.field_at rfl rfl (by kernel_rfl) rfl) rfl rfl rfl ?_
        | refine AL.det (AOp.len rfl rfl (by kernel_rfl)) rfl rfl rfl ?_
        | refine AL.det (AOp.field_ref rfl (by kernel_rfl)) rfl rfl rfl ?_
        | refine AL.guard_do rfl rfl rfl rfl ?_
        | refine AL.guard_skip rfl rfl rfl rfl rfl ?_
        | refine AW.cond_true rfl ?_
        | refine AW.cond_false rfl ?_
        | refine AW.block ?_
        | refine AW.endblk ?_
        | refine AW.skip ?_
        | refine AW.exit rfl ?_
        | refine AW.label ?_
        | refine AL.det (AOp.add rfl rfl (by omega)) rfl rfl rfl ?_
        | refine AL.det (AOp.sub rfl rfl (by omega)) rfl rfl rfl ?_
        | refine AL.det (AOp.max2 rfl rfl) rfl rfl rfl ?_
        | refine AL.det (AOp.min2 rfl rfl) rfl rfl rfl ?_
        | refine AL.det (AOp.bool_eq (by kernel_rfl) rfl rfl) rfl rfl rfl ?_
        | refine AL.det (AOp.bool_ne (by kernel_rfl) rfl rfl) rfl rfl rfl ?_
        | refine AL.det (AOp.build (by kernel_rfl) rfl rfl rfl) rfl rfl rfl ?_)
      rw [if_pos hb] at hp
      exact AW.retv rfl ⟨by rw [hp], rfl⟩
    · rw [if_neg (by simp [hb])] at hp
      repeat (first
        | refine AL.ev rfl rfl rfl rfl ?_
        | refine AW.seq ?_
        | refine AL.nil ?_
        | refine AW.region ?_
        | refine AL.det (AOp.load_at rfl rfl (by kernel_rfl)) rfl rfl rfl ?_
        | refine AL.det (AOp.field_at rfl rfl (by kernel_rfl) rfl) rfl rfl rfl ?_
        | refine AL.det (AOp.len rfl rfl (by kernel_rfl)) rfl rfl rfl ?_
        | refine AL.det (AOp.field_ref rfl (by kernel_rfl)) rfl rfl rfl ?_
        | refine AL.guard_do rfl rfl rfl rfl ?_
        | refine AL.guard_skip rfl rfl rfl rfl rfl ?_
        | refine AW.cond_true rfl ?_
        | refine AW.cond_false rfl ?_
        | refine AW.block ?_
        | refine AW.endblk ?_
        | refine AW.skip ?_
        | refine AW.exit rfl ?_
        | refine AW.label ?_
        | refine AL.det (AOp.add rfl rfl (by omega)) rfl rfl rfl ?_
        | refine AL.det (AOp.sub rfl rfl (by omega)) rfl rfl rfl ?_
        | refine AL.det (AOp.max2 rfl rfl) rfl rfl rfl ?_
        | refine AL.det (AOp.min2 rfl rfl) rfl rfl rfl ?_
        | refine AL.det (AOp.bool_eq (by kernel_rfl) rfl rfl) rfl rfl rfl ?_
        | refine AL.det (AOp.bool_ne (by kernel_rfl) rfl rfl) rfl rfl rfl ?_
        | refine AL.det (AOp.build (by kernel_rfl) rfl rfl rfl) rfl rfl rfl ?_)
      exact AW.again_keep (xs.length - (k + 1)) [0, 1, 7, 8] (by omega) ⟨k + 1, hlt, rfl, rfl, rfl, hp⟩
  · have hge : k = xs.length := by
      have : ¬ k < xs.length := by simpa using hb
      omega
    subst hge
    repeat (first
      | refine AL.ev rfl rfl rfl rfl ?_
      | refine AW.seq ?_
      | refine AL.nil ?_
      | refine AW.region ?_
      | refine AL.det (AOp.load_at rfl rfl (by kernel_rfl)) rfl rfl rfl ?_
      | refine AL.det (AOp.field_at rfl rfl (by kernel_rfl) rfl) rfl rfl rfl ?_
      | refine AL.det (AOp.len rfl rfl (by kernel_rfl)) rfl rfl rfl ?_
      | refine AL.det (AOp.field_ref rfl (by kernel_rfl)) rfl rfl rfl ?_
      | refine AL.guard_do rfl rfl rfl rfl ?_
      | refine AL.guard_skip rfl rfl rfl rfl rfl ?_
      | refine AW.cond_true rfl ?_
      | refine AW.cond_false rfl ?_
      | refine AW.block ?_
      | refine AW.endblk ?_
      | refine AW.skip ?_
      | refine AW.exit rfl ?_
      | refine AW.label ?_
      | refine AL.det (AOp.add rfl rfl (by omega)) rfl rfl rfl ?_
      | refine AL.det (AOp.sub rfl rfl (by omega)) rfl rfl rfl ?_
      | refine AL.det (AOp.max2 rfl rfl) rfl rfl rfl ?_
      | refine AL.det (AOp.min2 rfl rfl) rfl rfl rfl ?_
      | refine AL.det (AOp.bool_eq (by kernel_rfl) rfl rfl) rfl rfl rfl ?_
      | refine AL.det (AOp.bool_ne (by kernel_rfl) rfl rfl) rfl rfl rfl ?_
      | refine AL.det (AOp.build (by kernel_rfl) rfl rfl rfl) rfl rfl rfl ?_)
    refine AW.retv rfl ⟨?_, rfl⟩
    rw [hp]; simp [idxFrom]; rfl

theorem ContainsFunc_Stmt (xs : List GStmt) (hl : xs.length ≤ 4611686018427387904) (fid : FuncId) (caps : List AV) (p : GStmt → Bool) (hf : ∀ x ∈ xs, Tri Try.prog fid (x.st :: caps) [] (D (.bool (p x)) [])) :
    Tri Try.prog 28 [.sl (xs.map GStmt.av), .fn fid caps] [] (D (.bool (xs.any p)) []) := by
  have hc := IndexFunc_Stmt xs hl fid caps p hf
  refine Tri.enter 9 Try.func28 rfl rfl rfl rfl fun Fr w0 => ?_
  repeat (first
    | refine AL.det (AOp.call rfl rfl hc) rfl rfl rfl ?_
    | refine AL.ev rfl rfl rfl rfl ?_
    | refine AW.seq ?_
    | refine AL.nil ?_
    | refine AW.region ?_
    | refine AL.det (AOp.load_at rfl rfl (by kernel_rfl)) rfl rfl rfl ?_
    | refine AL.det (AOp.field_at rfl rfl (by kernel_rfl) rfl) rfl rfl rfl ?_
    | refine AL.det (AOp.len rfl rfl (by kernel_rfl)) rfl rfl rfl ?_
    | refine AL.det (AOp.field_ref rfl (by kernel_rfl)) rfl rfl rfl ?_
    | refine AL.guard_do rfl rfl rfl rfl ?_
    | refine AL.guard_skip rfl rfl rfl rfl rfl ?_
    | refine AW.cond_true rfl ?_
    | refine AW.cond_false rfl ?_
    | refine AW.block ?_
    | refine AW.endblk ?_
    | refine AW.skip ?_
    | refine AW.exit rfl ?_
    | refine AW.label ?_
    | refine AL.det (AOp.add rfl rfl (by omega)) rfl rfl rfl ?_
    | refine AL.det (AOp.sub rfl rfl (by omega)) rfl rfl rfl ?_
    | refine AL.det (AOp.max2 rfl rfl) rfl rfl rfl ?_
    | refine AL.det (AOp.min2 rfl rfl) rfl rfl rfl ?_
    | refine AL.det (AOp.bool_eq (by kernel_rfl) rfl rfl) rfl rfl rfl ?_
    | refine AL.det (AOp.bool_ne (by kernel_rfl) rfl rfl) rfl rfl rfl ?_
    | refine AL.det (AOp.build (by kernel_rfl) rfl rfl rfl) rfl rfl rfl ?_)
  refine AW.retv rfl ⟨?_, rfl⟩
  have := idxFrom_lt (p := p) xs 0
  have h2 : decide (idxFrom p xs 0 ≥ 0) = xs.any p := by rw [Bool.eq_iff_iff, decide_eq_true_iff, this]
  rw [h2]

/-! statements that contain one for which p holds -/
mutual
def hasS (p : GStmt → Bool) : GStmt → Bool
  | ⟨k, f, g, r, n, nm, fr, lit, regs, body, els⟩ => p ⟨k, f, g, r, n, nm, fr, lit, regs, body, els⟩ || hasL p body || hasL p els
def hasL (p : GStmt → Bool) : List GStmt → Bool
  | [] => false
  | s :: l => hasS p s || hasL p l
end
theorem hasS_eq (p : GStmt → Bool) (s : GStmt) : hasS p s = (p s || hasL p s.Body || hasL p s.Else) := by cases s; rfl
theorem hasL_eq (p : GStmt → Bool) (l : List GStmt) : hasL p l = l.any (hasS p) := by
  induction l with
  | nil => rfl
  | cons s l ih => simp [hasL, ih]
mutual
def cntS : GStmt → Nat
  | ⟨_, _, _, _, _, _, _, _, _, body, els⟩ => 1 + cntL body + cntL els
def cntL : List GStmt → Nat
  | [] => 0
  | s :: l => cntS s + cntL l
end
theorem cntS_eq (s : GStmt) : cntS s = 1 + cntL s.Body + cntL s.Else := by cases s; rfl
theorem cnt_mem {s : GStmt} : ∀ {l : List GStmt}, s ∈ l → cntS s ≤ cntL l
  | x :: l, h => by
    simp only [cntL]
    rcases List.mem_cons.1 h with rfl | h
    · omega
    · have := cnt_mem h; omega
theorem len_cnt : ∀ (l : List GStmt), l.length ≤ cntL l
  | [] => by simp [cntL]
  | s :: l => by
    have := len_cnt l
    have h2 := cntS_eq s
    simp only [cntL, List.length_cons]
    omega

theorem contains1 (s : GStmt) (fid : FuncId) (caps : List AV) (p : GStmt → Bool) (hf : Tri Try.prog fid (s.st :: caps) [] (D (.bool (p s)) [])) (hb : Tri Try.prog 15 [.sl (s.Body.map GStmt.av), .fn fid caps] [] (D (.bool (hasL p s.Body)) []))
    (he : Tri Try.prog 15 [.sl (s.Else.map GStmt.av), .fn fid caps] [] (D (.bool (hasL p s.Else)) [])) : Tri Try.prog 29 [s.st, .at (.fn fid caps)] [] (D (.bool (hasS p s)) []) := by
  rw [hasS_eq]
  generalize p s = b1 at *
  generalize hasL p s.Body = b2 at *
  generalize hasL p s.Else = b3 at *
  refine Tri.enter 19 Try.func29 rfl rfl rfl rfl fun Fr w0 => ?_
  cases b1 <;> cases b2 <;> cases b3 <;>
  repeat (first
    | refine AL.det (AOp.box_ro rfl rfl) rfl rfl rfl ?_
    | refine AL.det (AOp.call rfl rfl hf) rfl rfl rfl ?_
    | refine AL.det (AOp.call rfl rfl hb) rfl rfl rfl ?_
    | refine AL.det (AOp.call rfl rfl he) rfl rfl rfl ?_
    | refine AL.ev rfl rfl rfl rfl ?_
    | refine AW.seq ?_
    | refine AL.nil ?_
    | refine AW.region ?_
    | refine AL.det (AOp.load_at rfl rfl (by kernel_rfl)) rfl rfl rfl ?_
    | refine AL.det (AOp.field_at rfl rfl (by kernel_rfl) rfl) rfl rfl rfl ?_
    | refine AL.det (AOp.len rfl rfl (by kernel_rfl)) rfl rfl rfl ?_
    | refine AL.det (AOp.field_ref rfl (by kernel_rfl)) rfl rfl rfl ?_
    | refine AL.guard_do rfl rfl rfl rfl ?_
    | refine AL.guard_skip rfl rfl rfl rfl rfl ?_
    | refine AW.cond_true rfl ?_
    | refine AW.cond_false rfl ?_
    | refine AW.block ?_
    | refine AW.endblk ?_
    | refine AW.skip ?_
    | refine AW.exit rfl ?_
    | refine AW.label ?_
    | refine AL.det (AOp.add rfl rfl (by omega)) rfl rfl rfl ?_
    | refine AL.det (AOp.sub rfl rfl (by omega)) rfl rfl rfl ?_
    | refine AL.det (AOp.max2 rfl rfl) rfl rfl rfl ?_
    | refine AL.det (AOp.min2 rfl rfl) rfl rfl rfl ?_
    | refine AL.det (AOp.bool_eq (by kernel_rfl) rfl rfl) rfl rfl rfl ?_
    | refine AL.det (AOp.bool_ne (by kernel_rfl) rfl rfl) rfl rfl rfl ?_
    | refine AL.det (AOp.build (by kernel_rfl) rfl rfl rfl) rfl rfl rfl ?_)
  all_goals exact AW.retv rfl ⟨rfl, rfl⟩

theorem contains_n : ∀ (n : Nat) (l : List GStmt) (fid : FuncId) (caps : List AV) (p : GStmt → Bool) (hn : cntL l ≤ n) (hn2 : n ≤ 4611686018427387904) (hf : ∀ x, Tri Try.prog fid (GStmt.st x :: caps) [] (D (.bool (p x)) [])),
    Tri Try.prog 15 [.sl (l.map GStmt.av), .fn fid caps] [] (D (.bool (hasL p l)) []) := by
  intro n
  induction n using Nat.strongRecOn with
  | _ n ih =>
    intro l fid caps p hn hn2 hf
    have hlen := len_cnt l
    have hc := ContainsFunc_Stmt l (by omega) 29 [.at (.fn fid caps)] (hasS p) fun x hx => by
      have h1 := cnt_mem hx
      have h2 := cntS_eq x
      exact contains1 x fid caps p (hf x) (ih (cntL x.Body) (by omega) _ _ _ _ (Nat.le_refl _) (by omega) hf) (ih (cntL x.Else) (by omega) _ _ _ _ (Nat.le_refl _) (by omega) hf)
    rw [hasL_eq]
    refine Tri.enter 8 Try.func15 rfl rfl rfl rfl fun Fr w0 => ?_
    repeat (first
      | refine AL.det (AOp.box_ro rfl rfl) rfl rfl rfl ?_
      | refine AL.det (AOp.call rfl rfl hc) rfl rfl rfl ?_
      | refine AL.ev rfl rfl rfl rfl ?_
      | refine AW.seq ?_
      | refine AL.nil ?_
      | refine AW.region ?_
      | refine AL.det (AOp.load_at rfl rfl (by kernel_rfl)) rfl rfl rfl ?_
      | refine AL.det (AOp.field_at rfl rfl (by kernel_rfl) rfl) rfl rfl rfl ?_
      | refine AL.det (AOp.len rfl rfl (by kernel_rfl)) rfl rfl rfl ?_
      | refine AL.det (AOp.field_ref rfl (by kernel_rfl)) rfl rfl rfl ?_
      | refine AL.guard_do rfl rfl rfl rfl ?_
      | refine AL.guard_skip rfl rfl rfl rfl rfl ?_
      | refine AW.cond_true rfl ?_
      | refine AW.cond_false rfl ?_
      | refine AW.block ?_
      | refine AW.endblk ?_
      | refine AW.skip ?_
      | refine AW.exit rfl ?_
      | refine AW.label ?_
      | refine AL.det (AOp.add rfl rfl (by omega)) rfl rfl rfl ?_
      | refine AL.det (AOp.sub rfl rfl (by omega)) rfl rfl rfl ?_
      | refine AL.det (AOp.max2 rfl rfl) rfl rfl rfl ?_
      | refine AL.det (AOp.min2 rfl rfl) rfl rfl rfl ?_
      | refine AL.det (AOp.bool_eq (by kernel_rfl) rfl rfl) rfl rfl rfl ?_
      | refine AL.det (AOp.bool_ne (by kernel_rfl) rfl rfl) rfl rfl rfl ?_
      | refine AL.det (AOp.build (by kernel_rfl) rfl rfl rfl) rfl rfl rfl ?_)
    exact AW.retv rfl ⟨rfl, rfl⟩
end Go.Proofs.Ytdedkpfbfklgbaa
