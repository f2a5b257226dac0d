/- Contracts of the functions, part 1. -/
import Derived.Test.YtkolalhekgmmdaaGreatS3
import Derived.Test.YtkolalhekgmmdaaGreatProg
import Derived.Test.YtkolalhekgmmdaaGreatS2
namespace Go.Proofs.YtkolalhekgmmdaaGreat
open Go.RowKit Go.SX
set_option maxRecDepth 100000
set_option maxHeartbeats 4000000
set_option linter.unusedVariables false
set_option linter.unusedSimpArgs false
theorem lA {α : Type} {l m : List α} : (l ++ m).length = l.length + m.length := List.length_append
theorem lG {α : Type} {l : List α} {i : Nat} {a : α} (e : l[i]? = some a) : a ∈ l := List.mem_of_getElem? e
theorem bA (a b : Bool) : ((a && b) = true) = (a = true ∧ b = true) := Bool.and_eq_true a b
theorem sA {α : Type} {x : α} {xs : List α} {n : Nat} {a : α} : (x :: xs).set (n + 1) a = x :: xs.set n a := rfl
theorem sB {α : Type} {x : α} {xs : List α} {a : α} : (x :: xs).set 0 a = a :: xs := rfl
theorem sC {α : Type} {x : α} {xs : List α} {n : Nat} {d : α} : (x :: xs).getD (n + 1) d = xs.getD n d := rfl
theorem sD {α : Type} {x : α} {xs : List α} {d : α} : (x :: xs).getD 0 d = x := rfl
theorem dT {p : Prop} [h : Decidable p] : (decide p = true) = p := decide_eq_true_eq
theorem dF {p : Prop} {h : Decidable p} : decide p = false ↔ ¬ p := decide_eq_false_iff_not
theorem lM {α β : Type} {l : List α} (f : α → β) : (l.map f).length = l.length := List.length_map f
section
variable {C : Cx} {ds : List Deferred} {ks : List K} {ah : AH} {ops : Array Oper}
theorem xN (n : Nat) {af af' : AF} {rest : List Oper} (k : AW C ds ks af' ah) (h : evN ops n af rest = some (af', []) := by exact rfl) (hc : okN C.P C.n ops n af rest = true := by kernel_rfl) : AL C ds ks ops rest af ah := AL.es n (AL.nil k) h hc
theorem xS {ks0 : List K} {af af' : AF} {l' : List Oper} (id n : Nat) (k : AL C ds ks ops l' af' ah) (hc : ctlN 99 af ks0 = .c (.region id ops false) :: ks := by exact rfl) (h : evN ops n af ops.toList = some (af', l') := by exact rfl) (hk : okN C.P C.n ops n af ops.toList = true := by kernel_rfl) : AW C ds ks0 af ah := AW.r id (AL.es n k h hk) hc
end
section
variable {P : Program} {af : AF} {ah : AH} {d : Option Tmp} {T : TypeId} {ps : String} {es : Array Edge} {gd : Option (Nat × Bool)}
theorem iX {x y : Operand} {xs : List AV} {v : AV} {t : TypeId} {k : IntKind} {i : Int} {sz : Nat} (hv : xs[i.toNat]? = some v) (hx : aeval af x = some (.sl xs) := by exact rfl) (hy : aeval af y = some (.int k i) := by exact rfl) (h0 : 0 ≤ i := by omega) (he : esize P t = some sz := by kernel_rfl) (hs : v.size = sz := by exact rfl) : AOp P ⟨d, .indexAddr t x y, T, ps, es, gd⟩ af ah (D (.at v) ah) := AOp.index_sl hx hy h0 hv he hs
end
def idxFrom {α : Type} (p : α → Bool) : List α → Nat → Int
  | [], _ => -1
  | x :: xs, k => if p x then k else idxFrom p xs (k + 1)
theorem idxFrom_lt {α : Type} {p : α → Bool} : ∀ (xs : List α) (k : Nat), (idxFrom p xs k ≥ 0) = (xs.any p = true)
  | [], k => by simp [idxFrom]
  | x :: xs, k => by
    simp only [idxFrom, List.any_cons]
    by_cases h : p x = true
    · simp [h]
    · have := idxFrom_lt (p := p) xs (k + 1)
      simp only [h, Bool.false_eq_true, if_false, Bool.false_or]
      simpa using this
theorem IndexFunc_Stmt (xs : List GStmt) (hl : xs.length ≤ 4611686018427387904) (fid : FuncId) (caps : List AV) (p : GStmt → Bool) (hf : ∀ x ∈ xs, Tri Tryz.prog fid (x.st :: caps) [] (D (.bool (p x)) [])) :
    Tri Tryz.prog 103 [.sl (xs.map GStmt.av), .fn fid caps] [] (D (.int .i64 (idxFrom p xs 0)) []) := by
  refine Tri.enter 19 Tryz.func103 rfl rfl rfl rfl fun Fr w0 => ?_
  repeat (first
    | refine AL.ev rfl rfl rfl rfl ?_
    | refine AW.seq ?_
    | refine AL.nil ?_
    | refine AW.region ?_
    | refine AL.det (AOp.load_at rfl rfl (by kernel_rfl)) rfl rfl rfl ?_
    | refine AL.det (AOp.field_at rfl rfl (by kernel_rfl) rfl) rfl rfl rfl ?_
    | refine AL.det (AOp.len rfl rfl (by kernel_rfl)) rfl rfl rfl ?_
    | refine AL.det (AOp.field_ref rfl (by kernel_rfl)) rfl rfl rfl ?_
    | refine AL.guard_do rfl rfl rfl rfl ?_
    | refine AL.guard_skip rfl rfl rfl rfl rfl ?_
    | refine AW.cond_true rfl ?_
    | refine AW.cond_false rfl ?_
    | refine AW.block ?_
    | refine AW.endblk ?_
    | refine AW.skip ?_
    | refine AW.exit rfl ?_
    | refine AW.label ?_
    | refine AL.det (AOp.add rfl rfl (by omega)) rfl rfl rfl ?_
    | refine AL.det (AOp.sub rfl rfl (by omega)) rfl rfl rfl ?_
    | refine AL.det (AOp.max2 rfl rfl) rfl rfl rfl ?_
    | refine AL.det (AOp.min2 rfl rfl) rfl rfl rfl ?_
    | refine AL.det (AOp.bool_eq (by kernel_rfl) rfl rfl) rfl rfl rfl ?_
    | refine AL.det (AOp.bool_ne (by kernel_rfl) rfl rfl) rfl rfl rfl ?_
    | refine AL.det (AOp.build (by kernel_rfl) rfl rfl rfl) rfl rfl rfl ?_)
  refine AW.prune [0, 1, 7, 8] (AW.loop (fun m af h => ∃ k : Nat, k ≤ xs.length ∧ m = xs.length - k ∧ af = [(0, .sl (xs.map GStmt.av)), (1, .fn fid caps), (7, .int .i64 (xs.map GStmt.av).length), (8, .int .i64 k)] ∧ h = [] ∧ idxFrom p xs 0 = idxFrom p (xs.drop k) k) xs.length ⟨0, Nat.zero_le _, rfl, rfl, rfl, rfl⟩ ?_)
  rintro m af h ⟨k, hk, rfl, rfl, rfl, hp⟩
  repeat (first
    | refine AL.ev rfl rfl rfl rfl ?_
    | refine AW.seq ?_
    | refine AL.nil ?_
    | refine AW.region ?_
    | refine AL.det (AOp.load_at rfl rfl (by kernel_rfl)) rfl rfl rfl ?_
    | refine AL.det (AOp.field_at rfl rfl (by kernel_rfl) rfl) rfl rfl rfl ?_
    | refine AL.det (AOp.len rfl rfl (by kernel_rfl)) rfl rfl rfl ?_
    | refine AL.det (AOp.field_ref rfl (by kernel_rfl)) rfl rfl rfl ?_
    | refine AL.guard_do rfl rfl rfl rfl ?_
    | refine AL.guard_skip rfl rfl rfl rfl rfl ?_
    | refine AW.cond_true rfl ?_
    | refine AW.cond_false rfl ?_
    | refine AW.block ?_
    | refine AW.endblk ?_
    | refine AW.skip ?_
    | refine AW.exit rfl ?_
    | refine AW.label ?_
    | refine AL.det (AOp.add rfl rfl (by omega)) rfl rfl rfl ?_
    | refine AL.det (AOp.sub rfl rfl (by omega)) rfl rfl rfl ?_
    | refine AL.det (AOp.max2 rfl rfl) rfl rfl rfl ?_
    | refine AL.det (AOp.min2 rfl rfl) rfl rfl rfl ?_
    | refine AL.det (AOp.bool_eq (by kernel_rfl) rfl rfl) rfl rfl rfl ?_
    | refine AL.det (AOp.bool_ne (by kernel_rfl) rfl rfl) rfl rfl rfl ?_
    | refine AL.det (AOp.build (by kernel_rfl) rfl rfl rfl) rfl rfl rfl ?_)
  refine AW.cond rfl (fun hb => ?_) (fun hb => ?_)
  · have hlt : k < xs.length := by simpa using hb
    obtain ⟨x, hx⟩ := get_lt hlt
    have hx' : (xs.map GStmt.av)[((k : Nat) : Int).toNat]? = some x.st := GStmt.get hx
    have hc := hf x (lG hx)
    repeat (first
      | refine AL.det (iX hx') rfl rfl rfl ?_
      | refine AL.det (AOp.call rfl rfl hc) rfl rfl rfl ?_
      | refine AL.ev rfl rfl rfl rfl ?_
      | refine AW.seq ?_
      | refine AL.nil ?_
      | refine AW.region ?_
      | refine AL.det (AOp.load_at rfl rfl (by kernel_rfl)) rfl rfl rfl ?_
      | refine AL.det (AOp.field_at rfl rfl (by kernel_rfl) rfl) rfl rfl rfl ?_
      | refine AL.det (AOp.len rfl rfl (by kernel_rfl)) rfl rfl rfl ?_
      | refine AL.det (AOp.field_ref rfl (by kernel_rfl)) rfl rfl rfl ?_
      | refine AL.guard_do rfl rfl rfl rfl ?_
      | refine AL.guard_skip rfl rfl rfl rfl rfl ?_
      | refine AW.cond_true rfl ?_
      | refine AW.cond_false rfl ?_
      | refine AW.block ?_
      | refine AW.endblk ?_
      | refine AW.skip ?_
      | refine AW.exit rfl ?_
      | refine AW.label ?_
      | refine AL.det (AOp.add rfl rfl (by omega)) rfl rfl rfl ?_
      | refine AL.det (AOp.sub rfl rfl (by omega)) rfl rfl rfl ?_
      | refine AL.det (AOp.max2 rfl rfl) rfl rfl rfl ?_
      | refine AL.det (AOp.min2 rfl rfl) rfl rfl rfl ?_
      | refine AL.det (AOp.bool_eq (by kernel_rfl) rfl rfl) rfl rfl rfl ?_
      | refine AL.det (AOp.bool_ne (by kernel_rfl) rfl rfl) rfl rfl rfl ?_
      | refine AL.det (AOp.build (by kernel_rfl) rfl rfl rfl) rfl rfl rfl ?_)
    rw [drop_cons hx] at hp
    simp only [idxFrom] at hp
    refine AW.cond rfl (fun hb => ?_) (fun hb => ?_)
    · repeat (first
        | refine AL.ev rfl rfl rfl rfl ?_
        | refine AW.seq ?_
        | refine AL.nil ?_
        | refine AW.region ?_
        | refine AL.det (AOp.load_at rfl rfl (by kernel_rfl)) rfl rfl rfl ?_
        | refine AL.det (AOp.field_at rfl rfl (by kernel_rfl) rfl) rfl rfl rfl ?_
        | refine AL.det (AOp.len rfl rfl (by kernel_rfl)) rfl rfl rfl ?_
        | refine AL.det (AOp.field_ref rfl (by kernel_rfl)) rfl rfl rfl ?_
        | refine AL.guard_do rfl rfl rfl rfl ?_
        | refine AL.guard_skip rfl rfl rfl rfl rfl ?_
        | refine AW.cond_true rfl ?_
        | refine AW.cond_false rfl ?_
        | refine AW.block ?_
        | refine AW.endblk ?_
        | refine AW.skip ?_
        | refine AW.exit rfl ?_
        | refine AW.label ?_
        | refine AL.det (AOp.add rfl rfl (by omega)) rfl rfl rfl ?_
        | refine AL.det (AOp.sub rfl rfl (by omega)) rfl rfl rfl ?_
        | refine AL.det (AOp.max2 rfl rfl) rfl rfl rfl ?_
        | refine AL.det (AOp.min2 rfl rfl) rfl rfl rfl ?_
        | refine AL.det (AOp.bool_eq (by kernel_rfl) rfl rfl) rfl rfl rfl ?_
        | refine AL.det (AOp.bool_ne (by kernel_rfl) rfl rfl) rfl rfl rfl ?_
        | refine AL.det (AOp.build (by kernel_rfl) rfl rfl rfl) rfl rfl rfl ?_)
      rw [if_pos hb] at hp
      exact AW.retv rfl ⟨by rw [hp], rfl⟩
    · rw [if_neg (by simp [hb])] at hp
      repeat (first
        | refine AL.ev rfl rfl rfl rfl ?_
        | refine AW.seq ?_
        | refine AL.nil ?_
        | refine AW.region ?_
        | refine AL.det (AOp.load_at rfl rfl (by kernel_rfl)) rfl rfl rfl ?_
        | refine AL.det (AOp.field_at rfl rfl (by kernel_rfl) rfl) rfl rfl rfl ?_
        | refine AL.det (AOp.len rfl rfl (by kernel_rfl)) rfl rfl rfl ?_
        | refine AL.det (AOp.field_ref rfl (by kernel_rfl)) rfl rfl rfl ?_
        | refine AL.guard_do rfl rfl rfl rfl ?_
        | refine AL.guard_skip rfl rfl rfl rfl rfl ?_
        | refine AW.cond_true rfl ?_
        | refine AW.cond_false rfl ?_
        | refine AW.block ?_
        | refine AW.endblk ?_
        | refine AW.skip ?_
        | refine AW.exit rfl ?_
        | refine AW.label ?_
        | refine AL.det (AOp.add rfl rfl (by omega)) rfl rfl rfl ?_
        | refine AL.det (AOp.sub rfl rfl (by omega)) rfl rfl rfl ?_
        | refine AL.det (AOp.max2 rfl rfl) rfl rfl rfl ?_
        | refine AL.det (AOp.min2 rfl rfl) rfl rfl rfl ?_
        | refine AL.det (AOp.bool_eq (by kernel_rfl) rfl rfl) rfl rfl rfl ?_
        | refine AL.det (AOp.bool_ne (by kernel_rfl) rfl rfl) rfl rfl rfl ?_
        | refine AL.det (AOp.build (by kernel_rfl) rfl rfl rfl) rfl rfl rfl ?_)
      exact AW.again_keep (xs.length - (k + 1)) [0, 1, 7, 8] (by omega) ⟨k + 1, hlt, rfl, rfl, rfl, hp⟩
  · have hge : k = xs.length := by
      have : ¬ k < xs.length := by simpa using hb
      omega
    subst hge
    repeat (first
      | refine AL.ev rfl rfl rfl rfl ?_
      | refine AW.seq ?_
      | refine AL.nil ?_
      | refine AW.region ?_
      | refine AL.det (AOp.load_at rfl rfl (by kernel_rfl)) rfl rfl rfl ?_
      | refine AL.det (AOp.field_at rfl rfl (by kernel_rfl) rfl) rfl rfl rfl ?_
      | refine AL.det (AOp.len rfl rfl (by kernel_rfl)) rfl rfl rfl ?_
      | refine AL.det (AOp.field_ref rfl (by kernel_rfl)) rfl rfl rfl ?_
      | refine AL.guard_do rfl rfl rfl rfl ?_
      | refine AL.guard_skip rfl rfl rfl rfl rfl ?_
      | refine AW.cond_true rfl ?_
      | refine AW.cond_false rfl ?_
      | refine AW.block ?_
      | refine AW.endblk ?_
      | refine AW.skip ?_
      | refine AW.exit rfl ?_
      | refine AW.label ?_
      | refine AL.det (AOp.add rfl rfl (by omega)) rfl rfl rfl ?_
      | refine AL.det (AOp.sub rfl rfl (by omega)) rfl rfl rfl ?_
      | refine AL.det (AOp.max2 rfl rfl) rfl rfl rfl ?_
      | refine AL.det (AOp.min2 rfl rfl) rfl rfl rfl ?_
      | refine AL.det (AOp.bool_eq (by kernel_rfl) rfl rfl) rfl rfl rfl ?_
      | refine AL.det (AOp.bool_ne (by kernel_rfl) rfl rfl) rfl rfl rfl ?_
      | refine AL.det (AOp.build (by kernel_rfl) rfl rfl rfl) rfl rfl rfl ?_)
    refine AW.retv rfl ⟨?_, rfl⟩
    rw [hp]; simp [idxFrom]; rfl
theorem ContainsFunc_Stmt (xs : List GStmt) (hl : xs.length ≤ 4611686018427387904) (fid : FuncId) (caps : List AV) (p : GStmt → Bool) (hf : ∀ x ∈ xs, Tri Tryz.prog fid (x.st :: caps) [] (D (.bool (p x)) [])) :
    Tri Tryz.prog 79 [.sl (xs.map GStmt.av), .fn fid caps] [] (D (.bool (xs.any p)) []) := by
  have hc := IndexFunc_Stmt xs hl fid caps p hf
  refine Tri.enter 9 Tryz.func79 rfl rfl rfl rfl fun Fr w0 => ?_
  repeat (first
    | refine AL.det (AOp.call rfl rfl hc) rfl rfl rfl ?_
    | refine AL.ev rfl rfl rfl rfl ?_
    | refine AW.seq ?_
    | refine AL.nil ?_
    | refine AW.region ?_
    | refine AL.det (AOp.load_at rfl rfl (by kernel_rfl)) rfl rfl rfl ?_
    | refine AL.det (AOp.field_at rfl rfl (by kernel_rfl) rfl) rfl rfl rfl ?_
    | refine AL.det (AOp.len rfl rfl (by kernel_rfl)) rfl rfl rfl ?_
    | refine AL.det (AOp.field_ref rfl (by kernel_rfl)) rfl rfl rfl ?_
    | refine AL.guard_do rfl rfl rfl rfl ?_
    | refine AL.guard_skip rfl rfl rfl rfl rfl ?_
    | refine AW.cond_true rfl ?_
    | refine AW.cond_false rfl ?_
    | refine AW.block ?_
    | refine AW.endblk ?_
    | refine AW.skip ?_
    | refine AW.exit rfl ?_
    | refine AW.label ?_
    | refine AL.det (AOp.add rfl rfl (by omega)) rfl rfl rfl ?_
    | refine AL.det (AOp.sub rfl rfl (by omega)) rfl rfl rfl ?_
    | refine AL.det (AOp.max2 rfl rfl) rfl rfl rfl ?_
    | refine AL.det (AOp.min2 rfl rfl) rfl rfl rfl ?_
    | refine AL.det (AOp.bool_eq (by kernel_rfl) rfl rfl) rfl rfl rfl ?_
    | refine AL.det (AOp.bool_ne (by kernel_rfl) rfl rfl) rfl rfl rfl ?_
    | refine AL.det (AOp.build (by kernel_rfl) rfl rfl rfl) rfl rfl rfl ?_)
  refine AW.retv rfl ⟨?_, rfl⟩
  have := idxFrom_lt (p := p) xs 0
  have h2 : decide (idxFrom p xs 0 ≥ 0) = xs.any p := by rw [Bool.eq_iff_iff, decide_eq_true_iff, this]
  rw [h2]
mutual
def hasS (p : GStmt → Bool) : GStmt → Bool
  | ⟨k, f, g, r, n, nm, fr, lit, regs, body, els⟩ => p ⟨k, f, g, r, n, nm, fr, lit, regs, body, els⟩ || hasL p body || hasL p els
def hasL (p : GStmt → Bool) : List GStmt → Bool
  | [] => false
  | s :: l => hasS p s || hasL p l
end
theorem hasS_eq (p : GStmt → Bool) (s : GStmt) : hasS p s = (p s || hasL p s.Body || hasL p s.Else) := by cases s; rfl
theorem hasL_eq (p : GStmt → Bool) (l : List GStmt) : hasL p l = l.any (hasS p) := by
  induction l with
  | nil => rfl
  | cons s l ih => simp [hasL, ih]
mutual
def cntS : GStmt → Nat
  | ⟨_, _, _, _, _, _, _, _, _, body, els⟩ => 1 + cntL body + cntL els
def cntL : List GStmt → Nat
  | [] => 0
  | s :: l => cntS s + cntL l
end
theorem cntS_eq (s : GStmt) : cntS s = 1 + cntL s.Body + cntL s.Else := by cases s; rfl
theorem cnt_mem {s : GStmt} : ∀ {l : List GStmt}, s ∈ l → cntS s ≤ cntL l
  | x :: l, h => by
    simp only [cntL]
    rcases List.mem_cons.1 h with rfl | h
    · omega
    · have := cnt_mem h; omega
theorem len_cnt : ∀ (l : List GStmt), l.length ≤ cntL l
  | [] => by simp [cntL]
  | s :: l => by
    have := len_cnt l
    have h2 := cntS_eq s
    simp only [cntL, List.length_cons]
    omega
theorem contains1 (s : GStmt) (fid : FuncId) (caps : List AV) (p : GStmt → Bool) (hf : Tri Tryz.prog fid (s.st :: caps) [] (D (.bool (p s)) [])) (hb : Tri Tryz.prog 33 [.sl (s.Body.map GStmt.av), .fn fid caps] [] (D (.bool (hasL p s.Body)) []))
    (he : Tri Tryz.prog 33 [.sl (s.Else.map GStmt.av), .fn fid caps] [] (D (.bool (hasL p s.Else)) [])) : Tri Tryz.prog 80 [s.st, .at (.fn fid caps)] [] (D (.bool (hasS p s)) []) := by
  rw [hasS_eq]
  generalize p s = b1 at *
  generalize hasL p s.Body = b2 at *
  generalize hasL p s.Else = b3 at *
  refine Tri.enter 19 Tryz.func80 rfl rfl rfl rfl fun Fr w0 => ?_
  cases b1 <;> cases b2 <;> cases b3 <;>
  repeat (first
    | refine AL.det (AOp.box_ro rfl rfl) rfl rfl rfl ?_
    | refine AL.det (AOp.call rfl rfl hf) rfl rfl rfl ?_
    | refine AL.det (AOp.call rfl rfl hb) rfl rfl rfl ?_
    | refine AL.det (AOp.call rfl rfl he) rfl rfl rfl ?_
    | refine AL.ev rfl rfl rfl rfl ?_
    | refine AW.seq ?_
    | refine AL.nil ?_
    | refine AW.region ?_
    | refine AL.det (AOp.load_at rfl rfl (by kernel_rfl)) rfl rfl rfl ?_
    | refine AL.det (AOp.field_at rfl rfl (by kernel_rfl) rfl) rfl rfl rfl ?_
    | refine AL.det (AOp.len rfl rfl (by kernel_rfl)) rfl rfl rfl ?_
    | refine AL.det (AOp.field_ref rfl (by kernel_rfl)) rfl rfl rfl ?_
    | refine AL.guard_do rfl rfl rfl rfl ?_
    | refine AL.guard_skip rfl rfl rfl rfl rfl ?_
    | refine AW.cond_true rfl ?_
    | refine AW.cond_false rfl ?_
    | refine AW.block ?_
    | refine AW.endblk ?_
    | refine AW.skip ?_
    | refine AW.exit rfl ?_
    | refine AW.label ?_
    | refine AL.det (AOp.add rfl rfl (by omega)) rfl rfl rfl ?_
    | refine AL.det (AOp.sub rfl rfl (by omega)) rfl rfl rfl ?_
    | refine AL.det (AOp.max2 rfl rfl) rfl rfl rfl ?_
    | refine AL.det (AOp.min2 rfl rfl) rfl rfl rfl ?_
    | refine AL.det (AOp.bool_eq (by kernel_rfl) rfl rfl) rfl rfl rfl ?_
    | refine AL.det (AOp.bool_ne (by kernel_rfl) rfl rfl) rfl rfl rfl ?_
    | refine AL.det (AOp.build (by kernel_rfl) rfl rfl rfl) rfl rfl rfl ?_)
  all_goals exact AW.retv rfl ⟨rfl, rfl⟩
theorem contains_n : ∀ (n : Nat) (l : List GStmt) (fid : FuncId) (caps : List AV) (p : GStmt → Bool) (hn : cntL l ≤ n) (hn2 : n ≤ 4611686018427387904) (hf : ∀ x, Tri Tryz.prog fid (GStmt.st x :: caps) [] (D (.bool (p x)) [])),
    Tri Tryz.prog 33 [.sl (l.map GStmt.av), .fn fid caps] [] (D (.bool (hasL p l)) []) := by
  intro n
  induction n using Nat.strongRecOn with
  | _ n ih =>
    intro l fid caps p hn hn2 hf
    have hlen := len_cnt l
    have hc := ContainsFunc_Stmt l (by omega) 80 [.at (.fn fid caps)] (hasS p) fun x hx => by
      have h1 := cnt_mem hx
      have h2 := cntS_eq x
      exact contains1 x fid caps p (hf x) (ih (cntL x.Body) (by omega) _ _ _ _ (Nat.le_refl _) (by omega) hf) (ih (cntL x.Else) (by omega) _ _ _ _ (Nat.le_refl _) (by omega) hf)
    rw [hasL_eq]
    refine Tri.enter 8 Tryz.func33 rfl rfl rfl rfl fun Fr w0 => ?_
    repeat (first
      | refine AL.det (AOp.box_ro rfl rfl) rfl rfl rfl ?_
      | refine AL.det (AOp.call rfl rfl hc) rfl rfl rfl ?_
      | refine AL.ev rfl rfl rfl rfl ?_
      | refine AW.seq ?_
      | refine AL.nil ?_
      | refine AW.region ?_
      | refine AL.det (AOp.load_at rfl rfl (by kernel_rfl)) rfl rfl rfl ?_
      | refine AL.det (AOp.field_at rfl rfl (by kernel_rfl) rfl) rfl rfl rfl ?_
      | refine AL.det (AOp.len rfl rfl (by kernel_rfl)) rfl rfl rfl ?_
      | refine AL.det (AOp.field_ref rfl (by kernel_rfl)) rfl rfl rfl ?_
      | refine AL.guard_do rfl rfl rfl rfl ?_
      | refine AL.guard_skip rfl rfl rfl rfl rfl ?_
      | refine AW.cond_true rfl ?_
      | refine AW.cond_false rfl ?_
      | refine AW.block ?_
      | refine AW.endblk ?_
      | refine AW.skip ?_
      | refine AW.exit rfl ?_
      | refine AW.label ?_
      | refine AL.det (AOp.add rfl rfl (by omega)) rfl rfl rfl ?_
      | refine AL.det (AOp.sub rfl rfl (by omega)) rfl rfl rfl ?_
      | refine AL.det (AOp.max2 rfl rfl) rfl rfl rfl ?_
      | refine AL.det (AOp.min2 rfl rfl) rfl rfl rfl ?_
      | refine AL.det (AOp.bool_eq (by kernel_rfl) rfl rfl) rfl rfl rfl ?_
      | refine AL.det (AOp.bool_ne (by kernel_rfl) rfl rfl) rfl rfl rfl ?_
      | refine AL.det (AOp.build (by kernel_rfl) rfl rfl rfl) rfl rfl rfl ?_)
    exact AW.retv rfl ⟨rfl, rfl⟩
theorem IndexFunc_int (xs : List Int) (hl : xs.length ≤ 4611686018427387904) (fid : FuncId) (caps : List AV) (p : Int → Bool) (hf : ∀ x ∈ xs, Tri Tryz.prog fid ((iav x) :: caps) [] (D (.bool (p x)) [])) :
    Tri Tryz.prog 120 [.sl (xs.map iav), .fn fid caps] [] (D (.int .i64 (idxFrom p xs 0)) []) := by
  refine Tri.enter 19 Tryz.func120 rfl rfl rfl rfl fun Fr w0 => ?_
  repeat (first
    | refine AL.ev rfl rfl rfl rfl ?_
    | refine AW.seq ?_
    | refine AL.nil ?_
    | refine AW.region ?_
    | refine AL.det (AOp.load_at rfl rfl (by kernel_rfl)) rfl rfl rfl ?_
    | refine AL.det (AOp.field_at rfl rfl (by kernel_rfl) rfl) rfl rfl rfl ?_
    | refine AL.det (AOp.len rfl rfl (by kernel_rfl)) rfl rfl rfl ?_
    | refine AL.det (AOp.field_ref rfl (by kernel_rfl)) rfl rfl rfl ?_
    | refine AL.guard_do rfl rfl rfl rfl ?_
    | refine AL.guard_skip rfl rfl rfl rfl rfl ?_
    | refine AW.cond_true rfl ?_
    | refine AW.cond_false rfl ?_
    | refine AW.block ?_
    | refine AW.endblk ?_
    | refine AW.skip ?_
    | refine AW.exit rfl ?_
    | refine AW.label ?_
    | refine AL.det (AOp.add rfl rfl (by omega)) rfl rfl rfl ?_
    | refine AL.det (AOp.sub rfl rfl (by omega)) rfl rfl rfl ?_
    | refine AL.det (AOp.max2 rfl rfl) rfl rfl rfl ?_
    | refine AL.det (AOp.min2 rfl rfl) rfl rfl rfl ?_
    | refine AL.det (AOp.bool_eq (by kernel_rfl) rfl rfl) rfl rfl rfl ?_
    | refine AL.det (AOp.bool_ne (by kernel_rfl) rfl rfl) rfl rfl rfl ?_
    | refine AL.det (AOp.build (by kernel_rfl) rfl rfl rfl) rfl rfl rfl ?_)
  refine AW.prune [0, 1, 7, 8] (AW.loop (fun m af h => ∃ k : Nat, k ≤ xs.length ∧ m = xs.length - k ∧ af = [(0, .sl (xs.map iav)), (1, .fn fid caps), (7, .int .i64 (xs.map iav).length), (8, .int .i64 k)] ∧ h = [] ∧ idxFrom p xs 0 = idxFrom p (xs.drop k) k) xs.length ⟨0, Nat.zero_le _, rfl, rfl, rfl, rfl⟩ ?_)
  rintro m af h ⟨k, hk, rfl, rfl, rfl, hp⟩
  repeat (first
    | refine AL.ev rfl rfl rfl rfl ?_
    | refine AW.seq ?_
    | refine AL.nil ?_
    | refine AW.region ?_
    | refine AL.det (AOp.load_at rfl rfl (by kernel_rfl)) rfl rfl rfl ?_
    | refine AL.det (AOp.field_at rfl rfl (by kernel_rfl) rfl) rfl rfl rfl ?_
    | refine AL.det (AOp.len rfl rfl (by kernel_rfl)) rfl rfl rfl ?_
    | refine AL.det (AOp.field_ref rfl (by kernel_rfl)) rfl rfl rfl ?_
    | refine AL.guard_do rfl rfl rfl rfl ?_
    | refine AL.guard_skip rfl rfl rfl rfl rfl ?_
    | refine AW.cond_true rfl ?_
    | refine AW.cond_false rfl ?_
    | refine AW.block ?_
    | refine AW.endblk ?_
    | refine AW.skip ?_
    | refine AW.exit rfl ?_
    | refine AW.label ?_
    | refine AL.det (AOp.add rfl rfl (by omega)) rfl rfl rfl ?_
    | refine AL.det (AOp.sub rfl rfl (by omega)) rfl rfl rfl ?_
    | refine AL.det (AOp.max2 rfl rfl) rfl rfl rfl ?_
    | refine AL.det (AOp.min2 rfl rfl) rfl rfl rfl ?_
    | refine AL.det (AOp.bool_eq (by kernel_rfl) rfl rfl) rfl rfl rfl ?_
    | refine AL.det (AOp.bool_ne (by kernel_rfl) rfl rfl) rfl rfl rfl ?_
    | refine AL.det (AOp.build (by kernel_rfl) rfl rfl rfl) rfl rfl rfl ?_)
  refine AW.cond rfl (fun hb => ?_) (fun hb => ?_)
  · have hlt : k < xs.length := by simpa using hb
    obtain ⟨x, hx⟩ := get_lt hlt
    have hx' : (xs.map iav)[((k : Nat) : Int).toNat]? = some (iav x) := map_get hx
    have hc := hf x (lG hx)
    repeat (first
      | refine AL.det (iX hx') rfl rfl rfl ?_
      | refine AL.det (AOp.call rfl rfl hc) rfl rfl rfl ?_
      | refine AL.ev rfl rfl rfl rfl ?_
      | refine AW.seq ?_
      | refine AL.nil ?_
      | refine AW.region ?_
      | refine AL.det (AOp.load_at rfl rfl (by kernel_rfl)) rfl rfl rfl ?_
      | refine AL.det (AOp.field_at rfl rfl (by kernel_rfl) rfl) rfl rfl rfl ?_
      | refine AL.det (AOp.len rfl rfl (by kernel_rfl)) rfl rfl rfl ?_
      | refine AL.det (AOp.field_ref rfl (by kernel_rfl)) rfl rfl rfl ?_
      | refine AL.guard_do rfl rfl rfl rfl ?_
      | refine AL.guard_skip rfl rfl rfl rfl rfl ?_
      | refine AW.cond_true rfl ?_
      | refine AW.cond_false rfl ?_
      | refine AW.block ?_
      | refine AW.endblk ?_
      | refine AW.skip ?_
      | refine AW.exit rfl ?_
      | refine AW.label ?_
      | refine AL.det (AOp.add rfl rfl (by omega)) rfl rfl rfl ?_
      | refine AL.det (AOp.sub rfl rfl (by omega)) rfl rfl rfl ?_
      | refine AL.det (AOp.max2 rfl rfl) rfl rfl rfl ?_
      | refine AL.det (AOp.min2 rfl rfl) rfl rfl rfl ?_
      | refine AL.det (AOp.bool_eq (by kernel_rfl) rfl rfl) rfl rfl rfl ?_
      | refine AL.det (AOp.bool_ne (by kernel_rfl) rfl rfl) rfl rfl rfl ?_
      | refine AL.det (AOp.build (by kernel_rfl) rfl rfl rfl) rfl rfl rfl ?_)
    rw [drop_cons hx] at hp
    simp only [idxFrom] at hp
    refine AW.cond rfl (fun hb => ?_) (fun hb => ?_)
    · repeat (first
        | refine AL.ev rfl rfl rfl rfl ?_
        | refine AW.seq ?_
        | refine AL.nil ?_
        | refine AW.region ?_
        | refine AL.det (AOp.load_at rfl rfl (by kernel_rfl)) rfl rfl rfl ?_
        | refine AL.det (AOp.field_at rfl rfl (by kernel_rfl) rfl) rfl rfl rfl ?_
        | refine AL.det (AOp.len rfl rfl (by kernel_rfl)) rfl rfl rfl ?_
        | refine AL.det (AOp.field_ref rfl (by kernel_rfl)) rfl rfl rfl ?_
        | refine AL.guard_do rfl rfl rfl rfl ?_
        | refine AL.guard_skip rfl rfl rfl rfl rfl ?_
        | refine AW.cond_true rfl ?_
        | refine AW.cond_false rfl ?_
        | refine AW.block ?_
        | refine AW.endblk ?_
        | refine AW.skip ?_
        | refine AW.exit rfl ?_
        | refine AW.label ?_
        | refine AL.det (AOp.add rfl rfl (by omega)) rfl rfl rfl ?_
        | refine AL.det (AOp.sub rfl rfl (by omega)) rfl rfl rfl ?_
        | refine AL.det (AOp.max2 rfl rfl) rfl rfl rfl ?_
        | refine AL.det (AOp.min2 rfl rfl) rfl rfl rfl ?_
        | refine AL.det (AOp.bool_eq (by kernel_rfl) rfl rfl) rfl rfl rfl ?_
        | refine AL.det (AOp.bool_ne (by kernel_rfl) rfl rfl) rfl rfl rfl ?_
        | refine AL.det (AOp.build (by kernel_rfl) rfl rfl rfl) rfl rfl rfl ?_)
      rw [if_pos hb] at hp
      exact AW.retv rfl ⟨by rw [hp], rfl⟩
    · rw [if_neg (by simp [hb])] at hp
      repeat (first
        | refine AL.ev rfl rfl rfl rfl ?_
        | refine AW.seq ?_
        | refine AL.nil ?_
        | refine AW.region ?_
        | refine AL.det (AOp.load_at rfl rfl (by kernel_rfl)) rfl rfl rfl ?_
        | refine AL.det (AOp.field_at rfl rfl (by kernel_rfl) rfl) rfl rfl rfl ?_
        | refine AL.det (AOp.len rfl rfl (by kernel_rfl)) rfl rfl rfl ?_
        | refine AL.det (AOp.field_ref rfl (by kernel_rfl)) rfl rfl rfl ?_
        | refine AL.guard_do rfl rfl rfl rfl ?_
        | refine AL.guard_skip rfl rfl rfl rfl rfl ?_
        | refine AW.cond_true rfl ?_
        | refine AW.cond_false rfl ?_
        | refine AW.block ?_
        | refine AW.endblk ?_
        | refine AW.skip ?_
        | refine AW.exit rfl ?_
        | refine AW.label ?_
        | refine AL.det (AOp.add rfl rfl (by omega)) rfl rfl rfl ?_
        | refine AL.det (AOp.sub rfl rfl (by omega)) rfl rfl rfl ?_
        | refine AL.det (AOp.max2 rfl rfl) rfl rfl rfl ?_
        | refine AL.det (AOp.min2 rfl rfl) rfl rfl rfl ?_
        | refine AL.det (AOp.bool_eq (by kernel_rfl) rfl rfl) rfl rfl rfl ?_
        | refine AL.det (AOp.bool_ne (by kernel_rfl) rfl rfl) rfl rfl rfl ?_
        | refine AL.det (AOp.build (by kernel_rfl) rfl rfl rfl) rfl rfl rfl ?_)
      exact AW.again_keep (xs.length - (k + 1)) [0, 1, 7, 8] (by omega) ⟨k + 1, hlt, rfl, rfl, rfl, hp⟩
  · have hge : k = xs.length := by
      have : ¬ k < xs.length := by simpa using hb
      omega
    subst hge
    repeat (first
      | refine AL.ev rfl rfl rfl rfl ?_
      | refine AW.seq ?_
      | refine AL.nil ?_
      | refine AW.region ?_
      | refine AL.det (AOp.load_at rfl rfl (by kernel_rfl)) rfl rfl rfl ?_
      | refine AL.det (AOp.field_at rfl rfl (by kernel_rfl) rfl) rfl rfl rfl ?_
      | refine AL.det (AOp.len rfl rfl (by kernel_rfl)) rfl rfl rfl ?_
      | refine AL.det (AOp.field_ref rfl (by kernel_rfl)) rfl rfl rfl ?_
      | refine AL.guard_do rfl rfl rfl rfl ?_
      | refine AL.guard_skip rfl rfl rfl rfl rfl ?_
      | refine AW.cond_true rfl ?_
      | refine AW.cond_false rfl ?_
      | refine AW.block ?_
      | refine AW.endblk ?_
      | refine AW.skip ?_
      | refine AW.exit rfl ?_
      | refine AW.label ?_
      | refine AL.det (AOp.add rfl rfl (by omega)) rfl rfl rfl ?_
      | refine AL.det (AOp.sub rfl rfl (by omega)) rfl rfl rfl ?_
      | refine AL.det (AOp.max2 rfl rfl) rfl rfl rfl ?_
      | refine AL.det (AOp.min2 rfl rfl) rfl rfl rfl ?_
      | refine AL.det (AOp.bool_eq (by kernel_rfl) rfl rfl) rfl rfl rfl ?_
      | refine AL.det (AOp.bool_ne (by kernel_rfl) rfl rfl) rfl rfl rfl ?_
      | refine AL.det (AOp.build (by kernel_rfl) rfl rfl rfl) rfl rfl rfl ?_)
    refine AW.retv rfl ⟨?_, rfl⟩
    rw [hp]; simp [idxFrom]; rfl
theorem ContainsFunc_int (xs : List Int) (hl : xs.length ≤ 4611686018427387904) (fid : FuncId) (caps : List AV) (p : Int → Bool) (hf : ∀ x ∈ xs, Tri Tryz.prog fid ((iav x) :: caps) [] (D (.bool (p x)) [])) :
    Tri Tryz.prog 101 [.sl (xs.map iav), .fn fid caps] [] (D (.bool (xs.any p)) []) := by
  have hc := IndexFunc_int xs hl fid caps p hf
  refine Tri.enter 9 Tryz.func101 rfl rfl rfl rfl fun Fr w0 => ?_
  repeat (first
    | refine AL.det (AOp.call rfl rfl hc) rfl rfl rfl ?_
    | refine AL.ev rfl rfl rfl rfl ?_
    | refine AW.seq ?_
    | refine AL.nil ?_
    | refine AW.region ?_
    | refine AL.det (AOp.load_at rfl rfl (by kernel_rfl)) rfl rfl rfl ?_
    | refine AL.det (AOp.field_at rfl rfl (by kernel_rfl) rfl) rfl rfl rfl ?_
    | refine AL.det (AOp.len rfl rfl (by kernel_rfl)) rfl rfl rfl ?_
    | refine AL.det (AOp.field_ref rfl (by kernel_rfl)) rfl rfl rfl ?_
    | refine AL.guard_do rfl rfl rfl rfl ?_
    | refine AL.guard_skip rfl rfl rfl rfl rfl ?_
    | refine AW.cond_true rfl ?_
    | refine AW.cond_false rfl ?_
    | refine AW.block ?_
    | refine AW.endblk ?_
    | refine AW.skip ?_
    | refine AW.exit rfl ?_
    | refine AW.label ?_
    | refine AL.det (AOp.add rfl rfl (by omega)) rfl rfl rfl ?_
    | refine AL.det (AOp.sub rfl rfl (by omega)) rfl rfl rfl ?_
    | refine AL.det (AOp.max2 rfl rfl) rfl rfl rfl ?_
    | refine AL.det (AOp.min2 rfl rfl) rfl rfl rfl ?_
    | refine AL.det (AOp.bool_eq (by kernel_rfl) rfl rfl) rfl rfl rfl ?_
    | refine AL.det (AOp.bool_ne (by kernel_rfl) rfl rfl) rfl rfl rfl ?_
    | refine AL.det (AOp.build (by kernel_rfl) rfl rfl rfl) rfl rfl rfl ?_)
  refine AW.retv rfl ⟨?_, rfl⟩
  have := idxFrom_lt (p := p) xs 0
  have h2 : decide (idxFrom p xs 0 ≥ 0) = xs.any p := by rw [Bool.eq_iff_iff, decide_eq_true_iff, this]
  rw [h2]
theorem IndexFunc_poly (xs : List Int) (hl : xs.length ≤ 4611686018427387904) (fid : FuncId) (caps : List AV) (p : Int → Bool) (hf : ∀ x ∈ xs, Tri Tryz.prog fid ((iav x) :: caps) [] (D (.bool (p x)) [])) :
    Tri Tryz.prog 85 [.sl (xs.map iav), .fn fid caps] [] (D (.int .i64 (idxFrom p xs 0)) []) := by
  refine Tri.enter 19 Tryz.func85 rfl rfl rfl rfl fun Fr w0 => ?_
  repeat (first
    | refine AL.ev rfl rfl rfl rfl ?_
    | refine AW.seq ?_
    | refine AL.nil ?_
    | refine AW.region ?_
    | refine AL.det (AOp.load_at rfl rfl (by kernel_rfl)) rfl rfl rfl ?_
    | refine AL.det (AOp.field_at rfl rfl (by kernel_rfl) rfl) rfl rfl rfl ?_
    | refine AL.det (AOp.len rfl rfl (by kernel_rfl)) rfl rfl rfl ?_
    | refine AL.det (AOp.field_ref rfl (by kernel_rfl)) rfl rfl rfl ?_
    | refine AL.guard_do rfl rfl rfl rfl ?_
    | refine AL.guard_skip rfl rfl rfl rfl rfl ?_
    | refine AW.cond_true rfl ?_
    | refine AW.cond_false rfl ?_
    | refine AW.block ?_
    | refine AW.endblk ?_
    | refine AW.skip ?_
    | refine AW.exit rfl ?_
    | refine AW.label ?_
    | refine AL.det (AOp.add rfl rfl (by omega)) rfl rfl rfl ?_
    | refine AL.det (AOp.sub rfl rfl (by omega)) rfl rfl rfl ?_
    | refine AL.det (AOp.max2 rfl rfl) rfl rfl rfl ?_
    | refine AL.det (AOp.min2 rfl rfl) rfl rfl rfl ?_
    | refine AL.det (AOp.bool_eq (by kernel_rfl) rfl rfl) rfl rfl rfl ?_
    | refine AL.det (AOp.bool_ne (by kernel_rfl) rfl rfl) rfl rfl rfl ?_
    | refine AL.det (AOp.build (by kernel_rfl) rfl rfl rfl) rfl rfl rfl ?_)
  refine AW.prune [0, 1, 7, 8] (AW.loop (fun m af h => ∃ k : Nat, k ≤ xs.length ∧ m = xs.length - k ∧ af = [(0, .sl (xs.map iav)), (1, .fn fid caps), (7, .int .i64 (xs.map iav).length), (8, .int .i64 k)] ∧ h = [] ∧ idxFrom p xs 0 = idxFrom p (xs.drop k) k) xs.length ⟨0, Nat.zero_le _, rfl, rfl, rfl, rfl⟩ ?_)
  rintro m af h ⟨k, hk, rfl, rfl, rfl, hp⟩
  repeat (first
    | refine AL.ev rfl rfl rfl rfl ?_
    | refine AW.seq ?_
    | refine AL.nil ?_
    | refine AW.region ?_
    | refine AL.det (AOp.load_at rfl rfl (by kernel_rfl)) rfl rfl rfl ?_
    | refine AL.det (AOp.field_at rfl rfl (by kernel_rfl) rfl) rfl rfl rfl ?_
    | refine AL.det (AOp.len rfl rfl (by kernel_rfl)) rfl rfl rfl ?_
    | refine AL.det (AOp.field_ref rfl (by kernel_rfl)) rfl rfl rfl ?_
    | refine AL.guard_do rfl rfl rfl rfl ?_
    | refine AL.guard_skip rfl rfl rfl rfl rfl ?_
    | refine AW.cond_true rfl ?_
    | refine AW.cond_false rfl ?_
    | refine AW.block ?_
    | refine AW.endblk ?_
    | refine AW.skip ?_
    | refine AW.exit rfl ?_
    | refine AW.label ?_
    | refine AL.det (AOp.add rfl rfl (by omega)) rfl rfl rfl ?_
    | refine AL.det (AOp.sub rfl rfl (by omega)) rfl rfl rfl ?_
    | refine AL.det (AOp.max2 rfl rfl) rfl rfl rfl ?_
    | refine AL.det (AOp.min2 rfl rfl) rfl rfl rfl ?_
    | refine AL.det (AOp.bool_eq (by kernel_rfl) rfl rfl) rfl rfl rfl ?_
    | refine AL.det (AOp.bool_ne (by kernel_rfl) rfl rfl) rfl rfl rfl ?_
    | refine AL.det (AOp.build (by kernel_rfl) rfl rfl rfl) rfl rfl rfl ?_)
  refine AW.cond rfl (fun hb => ?_) (fun hb => ?_)
  · have hlt : k < xs.length := by simpa using hb
    obtain ⟨x, hx⟩ := get_lt hlt
    have hx' : (xs.map iav)[((k : Nat) : Int).toNat]? = some (iav x) := map_get hx
    have hc := hf x (lG hx)
    repeat (first
      | refine AL.det (iX hx') rfl rfl rfl ?_
      | refine AL.det (AOp.call rfl rfl hc) rfl rfl rfl ?_
      | refine AL.ev rfl rfl rfl rfl ?_
      | refine AW.seq ?_
      | refine AL.nil ?_
      | refine AW.region ?_
      | refine AL.det (AOp.load_at rfl rfl (by kernel_rfl)) rfl rfl rfl ?_
      | refine AL.det (AOp.field_at rfl rfl (by kernel_rfl) rfl) rfl rfl rfl ?_
      | refine AL.det (AOp.len rfl rfl (by kernel_rfl)) rfl rfl rfl ?_
      | refine AL.det (AOp.field_ref rfl (by kernel_rfl)) rfl rfl rfl ?_
      | refine AL.guard_do rfl rfl rfl rfl ?_
      | refine AL.guard_skip rfl rfl rfl rfl rfl ?_
      | refine AW.cond_true rfl ?_
      | refine AW.cond_false rfl ?_
      | refine AW.block ?_
      | refine AW.endblk ?_
      | refine AW.skip ?_
      | refine AW.exit rfl ?_
      | refine AW.label ?_
      | refine AL.det (AOp.add rfl rfl (by omega)) rfl rfl rfl ?_
      | refine AL.det (AOp.sub rfl rfl (by omega)) rfl rfl rfl ?_
      | refine AL.det (AOp.max2 rfl rfl) rfl rfl rfl ?_
      | refine AL.det (AOp.min2 rfl rfl) rfl rfl rfl ?_
      | refine AL.det (AOp.bool_eq (by kernel_rfl) rfl rfl) rfl rfl rfl ?_
      | refine AL.det (AOp.bool_ne (by kernel_rfl) rfl rfl) rfl rfl rfl ?_
      | refine AL.det (AOp.build (by kernel_rfl) rfl rfl rfl) rfl rfl rfl ?_)
    rw [drop_cons hx] at hp
    simp only [idxFrom] at hp
    refine AW.cond rfl (fun hb => ?_) (fun hb => ?_)
    · repeat (first
        | refine AL.ev rfl rfl rfl rfl ?_
        | refine AW.seq ?_
        | refine AL.nil ?_
        | refine AW.region ?_
        | refine AL.det (AOp.load_at rfl rfl (by kernel_rfl)) rfl rfl rfl ?_
        | refine AL.det (AOp.field_at rfl rfl (by kernel_rfl) rfl) rfl rfl rfl ?_
        | refine AL.det (AOp.len rfl rfl (by kernel_rfl)) rfl rfl rfl ?_
        | refine AL.det (AOp.field_ref rfl (by kernel_rfl)) rfl rfl rfl ?_
        | refine AL.guard_do rfl rfl rfl rfl ?_
        | refine AL.guard_skip rfl rfl rfl rfl rfl ?_
        | refine AW.cond_true rfl ?_
        | refine AW.cond_false rfl ?_
        | refine AW.block ?_
        | refine AW.endblk ?_
        | refine AW.skip ?_
        | refine AW.exit rfl ?_
        | refine AW.label ?_
        | refine AL.det (AOp.add rfl rfl (by omega)) rfl rfl rfl ?_
        | refine AL.det (AOp.sub rfl rfl (by omega)) rfl rfl rfl ?_
        | refine AL.det (AOp.max2 rfl rfl) rfl rfl rfl ?_
        | refine AL.det (AOp.min2 rfl rfl) rfl rfl rfl ?_
        | refine AL.det (AOp.bool_eq (by kernel_rfl) rfl rfl) rfl rfl rfl ?_
        | refine AL.det (AOp.bool_ne (by kernel_rfl) rfl rfl) rfl rfl rfl ?_
        | refine AL.det (AOp.build (by kernel_rfl) rfl rfl rfl) rfl rfl rfl ?_)
      rw [if_pos hb] at hp
      exact AW.retv rfl ⟨by rw [hp], rfl⟩
    · rw [if_neg (by simp [hb])] at hp
      repeat (first
        | refine AL.ev rfl rfl rfl rfl ?_
        | refine AW.seq ?_
        | refine AL.nil ?_
        | refine AW.region ?_
        | refine AL.det (AOp.load_at rfl rfl (by kernel_rfl)) rfl rfl rfl ?_
        | refine AL.det (AOp.field_at rfl rfl (by kernel_rfl) rfl) rfl rfl rfl ?_
        | refine AL.det (AOp.len rfl rfl (by kernel_rfl)) rfl rfl rfl ?_
        | refine AL.det (AOp.field_ref rfl (by kernel_rfl)) rfl rfl rfl ?_
        | refine AL.guard_do rfl rfl rfl rfl ?_
        | refine AL.guard_skip rfl rfl rfl rfl rfl ?_
        | refine AW.cond_true rfl ?_
        | refine AW.cond_false rfl ?_
        | refine AW.block ?_
        | refine AW.endblk ?_
        | refine AW.skip ?_
        | refine AW.exit rfl ?_
        | refine AW.label ?_
        | refine AL.det (AOp.add rfl rfl (by omega)) rfl rfl rfl ?_
        | refine AL.det (AOp.sub rfl rfl (by omega)) rfl rfl rfl ?_
        | refine AL.det (AOp.max2 rfl rfl) rfl rfl rfl ?_
        | refine AL.det (AOp.min2 rfl rfl) rfl rfl rfl ?_
        | refine AL.det (AOp.bool_eq (by kernel_rfl) rfl rfl) rfl rfl rfl ?_
        | refine AL.det (AOp.bool_ne (by kernel_rfl) rfl rfl) rfl rfl rfl ?_
        | refine AL.det (AOp.build (by kernel_rfl) rfl rfl rfl) rfl rfl rfl ?_)
      exact AW.again_keep (xs.length - (k + 1)) [0, 1, 7, 8] (by omega) ⟨k + 1, hlt, rfl, rfl, rfl, hp⟩
  · have hge : k = xs.length := by
      have : ¬ k < xs.length := by simpa using hb
      omega
    subst hge
    repeat (first
      | refine AL.ev rfl rfl rfl rfl ?_
      | refine AW.seq ?_
      | refine AL.nil ?_
      | refine AW.region ?_
      | refine AL.det (AOp.load_at rfl rfl (by kernel_rfl)) rfl rfl rfl ?_
      | refine AL.det (AOp.field_at rfl rfl (by kernel_rfl) rfl) rfl rfl rfl ?_
      | refine AL.det (AOp.len rfl rfl (by kernel_rfl)) rfl rfl rfl ?_
      | refine AL.det (AOp.field_ref rfl (by kernel_rfl)) rfl rfl rfl ?_
      | refine AL.guard_do rfl rfl rfl rfl ?_
      | refine AL.guard_skip rfl rfl rfl rfl rfl ?_
      | refine AW.cond_true rfl ?_
      | refine AW.cond_false rfl ?_
      | refine AW.block ?_
      | refine AW.endblk ?_
      | refine AW.skip ?_
      | refine AW.exit rfl ?_
      | refine AW.label ?_
      | refine AL.det (AOp.add rfl rfl (by omega)) rfl rfl rfl ?_
      | refine AL.det (AOp.sub rfl rfl (by omega)) rfl rfl rfl ?_
      | refine AL.det (AOp.max2 rfl rfl) rfl rfl rfl ?_
      | refine AL.det (AOp.min2 rfl rfl) rfl rfl rfl ?_
      | refine AL.det (AOp.bool_eq (by kernel_rfl) rfl rfl) rfl rfl rfl ?_
      | refine AL.det (AOp.bool_ne (by kernel_rfl) rfl rfl) rfl rfl rfl ?_
      | refine AL.det (AOp.build (by kernel_rfl) rfl rfl rfl) rfl rfl rfl ?_)
    refine AW.retv rfl ⟨?_, rfl⟩
    rw [hp]; simp [idxFrom]; rfl
theorem ContainsFunc_poly (xs : List Int) (hl : xs.length ≤ 4611686018427387904) (fid : FuncId) (caps : List AV) (p : Int → Bool) (hf : ∀ x ∈ xs, Tri Tryz.prog fid ((iav x) :: caps) [] (D (.bool (p x)) [])) :
    Tri Tryz.prog 36 [.sl (xs.map iav), .fn fid caps] [] (D (.bool (xs.any p)) []) := by
  have hc := IndexFunc_poly xs hl fid caps p hf
  refine Tri.enter 9 Tryz.func36 rfl rfl rfl rfl fun Fr w0 => ?_
  repeat (first
    | refine AL.det (AOp.call rfl rfl hc) rfl rfl rfl ?_
    | refine AL.ev rfl rfl rfl rfl ?_
    | refine AW.seq ?_
    | refine AL.nil ?_
    | refine AW.region ?_
    | refine AL.det (AOp.load_at rfl rfl (by kernel_rfl)) rfl rfl rfl ?_
    | refine AL.det (AOp.field_at rfl rfl (by kernel_rfl) rfl) rfl rfl rfl ?_
    | refine AL.det (AOp.len rfl rfl (by kernel_rfl)) rfl rfl rfl ?_
    | refine AL.det (AOp.field_ref rfl (by kernel_rfl)) rfl rfl rfl ?_
    | refine AL.guard_do rfl rfl rfl rfl ?_
    | refine AL.guard_skip rfl rfl rfl rfl rfl ?_
    | refine AW.cond_true rfl ?_
    | refine AW.cond_false rfl ?_
    | refine AW.block ?_
    | refine AW.endblk ?_
    | refine AW.skip ?_
    | refine AW.exit rfl ?_
    | refine AW.label ?_
    | refine AL.det (AOp.add rfl rfl (by omega)) rfl rfl rfl ?_
    | refine AL.det (AOp.sub rfl rfl (by omega)) rfl rfl rfl ?_
    | refine AL.det (AOp.max2 rfl rfl) rfl rfl rfl ?_
    | refine AL.det (AOp.min2 rfl rfl) rfl rfl rfl ?_
    | refine AL.det (AOp.bool_eq (by kernel_rfl) rfl rfl) rfl rfl rfl ?_
    | refine AL.det (AOp.bool_ne (by kernel_rfl) rfl rfl) rfl rfl rfl ?_
    | refine AL.det (AOp.build (by kernel_rfl) rfl rfl rfl) rfl rfl rfl ?_)
  refine AW.retv rfl ⟨?_, rfl⟩
  have := idxFrom_lt (p := p) xs 0
  have h2 : decide (idxFrom p xs 0 ≥ 0) = xs.any p := by rw [Bool.eq_iff_iff, decide_eq_true_iff, this]
  rw [h2]
theorem IndexFunc_Rel (xs : List GRel) (hl : xs.length ≤ 4611686018427387904) (fid : FuncId) (caps : List AV) (p : GRel → Bool) (hf : ∀ x ∈ xs, Tri Tryz.prog fid (x.av :: caps) [] (D (.bool (p x)) [])) :
    Tri Tryz.prog 57 [.sl (xs.map GRel.av), .fn fid caps] [] (D (.int .i64 (idxFrom p xs 0)) []) := by
  refine Tri.enter 19 Tryz.func57 rfl rfl rfl rfl fun Fr w0 => ?_
  repeat (first
    | refine AL.ev rfl rfl rfl rfl ?_
    | refine AW.seq ?_
    | refine AL.nil ?_
    | refine AW.region ?_
    | refine AL.det (AOp.load_at rfl rfl (by kernel_rfl)) rfl rfl rfl ?_
    | refine AL.det (AOp.field_at rfl rfl (by kernel_rfl) rfl) rfl rfl rfl ?_
    | refine AL.det (AOp.len rfl rfl (by kernel_rfl)) rfl rfl rfl ?_
    | refine AL.det (AOp.field_ref rfl (by kernel_rfl)) rfl rfl rfl ?_
    | refine AL.guard_do rfl rfl rfl rfl ?_
    | refine AL.guard_skip rfl rfl rfl rfl rfl ?_
    | refine AW.cond_true rfl ?_
    | refine AW.cond_false rfl ?_
    | refine AW.block ?_
    | refine AW.endblk ?_
    | refine AW.skip ?_
    | refine AW.exit rfl ?_
    | refine AW.label ?_
    | refine AL.det (AOp.add rfl rfl (by omega)) rfl rfl rfl ?_
    | refine AL.det (AOp.sub rfl rfl (by omega)) rfl rfl rfl ?_
    | refine AL.det (AOp.max2 rfl rfl) rfl rfl rfl ?_
    | refine AL.det (AOp.min2 rfl rfl) rfl rfl rfl ?_
    | refine AL.det (AOp.bool_eq (by kernel_rfl) rfl rfl) rfl rfl rfl ?_
    | refine AL.det (AOp.bool_ne (by kernel_rfl) rfl rfl) rfl rfl rfl ?_
    | refine AL.det (AOp.build (by kernel_rfl) rfl rfl rfl) rfl rfl rfl ?_)
  refine AW.prune [0, 1, 7, 8] (AW.loop (fun m af h => ∃ k : Nat, k ≤ xs.length ∧ m = xs.length - k ∧ af = [(0, .sl (xs.map GRel.av)), (1, .fn fid caps), (7, .int .i64 (xs.map GRel.av).length), (8, .int .i64 k)] ∧ h = [] ∧ idxFrom p xs 0 = idxFrom p (xs.drop k) k) xs.length ⟨0, Nat.zero_le _, rfl, rfl, rfl, rfl⟩ ?_)
  rintro m af h ⟨k, hk, rfl, rfl, rfl, hp⟩
  repeat (first
    | refine AL.ev rfl rfl rfl rfl ?_
    | refine AW.seq ?_
    | refine AL.nil ?_
    | refine AW.region ?_
    | refine AL.det (AOp.load_at rfl rfl (by kernel_rfl)) rfl rfl rfl ?_
    | refine AL.det (AOp.field_at rfl rfl (by kernel_rfl) rfl) rfl rfl rfl ?_
    | refine AL.det (AOp.len rfl rfl (by kernel_rfl)) rfl rfl rfl ?_
    | refine AL.det (AOp.field_ref rfl (by kernel_rfl)) rfl rfl rfl ?_
    | refine AL.guard_do rfl rfl rfl rfl ?_
    | refine AL.guard_skip rfl rfl rfl rfl rfl ?_
    | refine AW.cond_true rfl ?_
    | refine AW.cond_false rfl ?_
    | refine AW.block ?_
    | refine AW.endblk ?_
    | refine AW.skip ?_
    | refine AW.exit rfl ?_
    | refine AW.label ?_
    | refine AL.det (AOp.add rfl rfl (by omega)) rfl rfl rfl ?_
    | refine AL.det (AOp.sub rfl rfl (by omega)) rfl rfl rfl ?_
    | refine AL.det (AOp.max2 rfl rfl) rfl rfl rfl ?_
    | refine AL.det (AOp.min2 rfl rfl) rfl rfl rfl ?_
    | refine AL.det (AOp.bool_eq (by kernel_rfl) rfl rfl) rfl rfl rfl ?_
    | refine AL.det (AOp.bool_ne (by kernel_rfl) rfl rfl) rfl rfl rfl ?_
    | refine AL.det (AOp.build (by kernel_rfl) rfl rfl rfl) rfl rfl rfl ?_)
  refine AW.cond rfl (fun hb => ?_) (fun hb => ?_)
  · have hlt : k < xs.length := by simpa using hb
    obtain ⟨x, hx⟩ := get_lt hlt
    have hx' : (xs.map GRel.av)[((k : Nat) : Int).toNat]? = some x.av := map_get hx
    have hc := hf x (lG hx)
    repeat (first
      | refine AL.det (iX hx') rfl rfl rfl ?_
      | refine AL.det (AOp.call rfl rfl hc) rfl rfl rfl ?_
      | refine AL.ev rfl rfl rfl rfl ?_
      | refine AW.seq ?_
      | refine AL.nil ?_
      | refine AW.region ?_
      | refine AL.det (AOp.load_at rfl rfl (by kernel_rfl)) rfl rfl rfl ?_
      | refine AL.det (AOp.field_at rfl rfl (by kernel_rfl) rfl) rfl rfl rfl ?_
      | refine AL.det (AOp.len rfl rfl (by kernel_rfl)) rfl rfl rfl ?_
      | refine AL.det (AOp.field_ref rfl (by kernel_rfl)) rfl rfl rfl ?_
      | refine AL.guard_do rfl rfl rfl rfl ?_
      | refine AL.guard_skip rfl rfl rfl rfl rfl ?_
      | refine AW.cond_true rfl ?_
      | refine AW.cond_false rfl ?_
      | refine AW.block ?_
      | refine AW.endblk ?_
      | refine AW.skip ?_
      | refine AW.exit rfl ?_
      | refine AW.label ?_
      | refine AL.det (AOp.add rfl rfl (by omega)) rfl rfl rfl ?_
      | refine AL.det (AOp.sub rfl rfl (by omega)) rfl rfl rfl ?_
      | refine AL.det (AOp.max2 rfl rfl) rfl rfl rfl ?_
      | refine AL.det (AOp.min2 rfl rfl) rfl rfl rfl ?_
      | refine AL.det (AOp.bool_eq (by kernel_rfl) rfl rfl) rfl rfl rfl ?_
      | refine AL.det (AOp.bool_ne (by kernel_rfl) rfl rfl) rfl rfl rfl ?_
      | refine AL.det (AOp.build (by kernel_rfl) rfl rfl rfl) rfl rfl rfl ?_)
    rw [drop_cons hx] at hp
    simp only [idxFrom] at hp
    refine AW.cond rfl (fun hb => ?_) (fun hb => ?_)
    · repeat (first
        | refine AL.ev rfl rfl rfl rfl ?_
        | refine AW.seq ?_
        | refine AL.nil ?_
        | refine AW.region ?_
        | refine AL.det (AOp.load_at rfl rfl (by kernel_rfl)) rfl rfl rfl ?_
        | refine AL.det (AOp.field_at rfl rfl (by kernel_rfl) rfl) rfl rfl rfl ?_
        | refine AL.det (AOp.len rfl rfl (by kernel_rfl)) rfl rfl rfl ?_
        | refine AL.det (AOp.field_ref rfl (by kernel_rfl)) rfl rfl rfl ?_
        | refine AL.guard_do rfl rfl rfl rfl ?_
        | refine AL.guard_skip rfl rfl rfl rfl rfl ?_
        | refine AW.cond_true rfl ?_
        | refine AW.cond_false rfl ?_
        | refine AW.block ?_
        | refine AW.endblk ?_
        | refine AW.skip ?_
        | refine AW.exit rfl ?_
        | refine AW.label ?_
        | refine AL.det (AOp.add rfl rfl (by omega)) rfl rfl rfl ?_
        | refine AL.det (AOp.sub rfl rfl (by omega)) rfl rfl rfl ?_
        | refine AL.det (AOp.max2 rfl rfl) rfl rfl rfl ?_
        | refine AL.det (AOp.min2 rfl rfl) rfl rfl rfl ?_
        | refine AL.det (AOp.bool_eq (by kernel_rfl) rfl rfl) rfl rfl rfl ?_
        | refine AL.det (AOp.bool_ne (by kernel_rfl) rfl rfl) rfl rfl rfl ?_
        | refine AL.det (AOp.build (by kernel_rfl) rfl rfl rfl) rfl rfl rfl ?_)
      rw [if_pos hb] at hp
      exact AW.retv rfl ⟨by rw [hp], rfl⟩
    · rw [if_neg (by simp [hb])] at hp
      repeat (first
        | refine AL.ev rfl rfl rfl rfl ?_
        | refine AW.seq ?_
        | refine AL.nil ?_
        | refine AW.region ?_
        | refine AL.det (AOp.load_at rfl rfl (by kernel_rfl)) rfl rfl rfl ?_
        | refine AL.det (AOp.field_at rfl rfl (by kernel_rfl) rfl) rfl rfl rfl ?_
        | refine AL.det (AOp.len rfl rfl (by kernel_rfl)) rfl rfl rfl ?_
        | refine AL.det (AOp.field_ref rfl (by kernel_rfl)) rfl rfl rfl ?_
        | refine AL.guard_do rfl rfl rfl rfl ?_
        | refine AL.guard_skip rfl rfl rfl rfl rfl ?_
        | refine AW.cond_true rfl ?_
        | refine AW.cond_false rfl ?_
        | refine AW.block ?_
        | refine AW.endblk ?_
        | refine AW.skip ?_
        | refine AW.exit rfl ?_
        | refine AW.label ?_
        | refine AL.det (AOp.add rfl rfl (by omega)) rfl rfl rfl ?_
        | refine AL.det (AOp.sub rfl rfl (by omega)) rfl rfl rfl ?_
        | refine AL.det (AOp.max2 rfl rfl) rfl rfl rfl ?_
        | refine AL.det (AOp.min2 rfl rfl) rfl rfl rfl ?_
        | refine AL.det (AOp.bool_eq (by kernel_rfl) rfl rfl) rfl rfl rfl ?_
        | refine AL.det (AOp.bool_ne (by kernel_rfl) rfl rfl) rfl rfl rfl ?_
        | refine AL.det (AOp.build (by kernel_rfl) rfl rfl rfl) rfl rfl rfl ?_)
      exact AW.again_keep (xs.length - (k + 1)) [0, 1, 7, 8] (by omega) ⟨k + 1, hlt, rfl, rfl, rfl, hp⟩
  · have hge : k = xs.length := by
      have : ¬ k < xs.length := by simpa using hb
      omega
    subst hge
    repeat (first
      | refine AL.ev rfl rfl rfl rfl ?_
      | refine AW.seq ?_
      | refine AL.nil ?_
      | refine AW.region ?_
      | refine AL.det (AOp.load_at rfl rfl (by kernel_rfl)) rfl rfl rfl ?_
      | refine AL.det (AOp.field_at rfl rfl (by kernel_rfl) rfl) rfl rfl rfl ?_
      | refine AL.det (AOp.len rfl rfl (by kernel_rfl)) rfl rfl rfl ?_
      | refine AL.det (AOp.field_ref rfl (by kernel_rfl)) rfl rfl rfl ?_
      | refine AL.guard_do rfl rfl rfl rfl ?_
      | refine AL.guard_skip rfl rfl rfl rfl rfl ?_
      | refine AW.cond_true rfl ?_
      | refine AW.cond_false rfl ?_
      | refine AW.block ?_
      | refine AW.endblk ?_
      | refine AW.skip ?_
      | refine AW.exit rfl ?_
      | refine AW.label ?_
      | refine AL.det (AOp.add rfl rfl (by omega)) rfl rfl rfl ?_
      | refine AL.det (AOp.sub rfl rfl (by omega)) rfl rfl rfl ?_
      | refine AL.det (AOp.max2 rfl rfl) rfl rfl rfl ?_
      | refine AL.det (AOp.min2 rfl rfl) rfl rfl rfl ?_
      | refine AL.det (AOp.bool_eq (by kernel_rfl) rfl rfl) rfl rfl rfl ?_
      | refine AL.det (AOp.bool_ne (by kernel_rfl) rfl rfl) rfl rfl rfl ?_
      | refine AL.det (AOp.build (by kernel_rfl) rfl rfl rfl) rfl rfl rfl ?_)
    refine AW.retv rfl ⟨?_, rfl⟩
    rw [hp]; simp [idxFrom]; rfl
theorem ContainsFunc_Rel (xs : List GRel) (hl : xs.length ≤ 4611686018427387904) (fid : FuncId) (caps : List AV) (p : GRel → Bool) (hf : ∀ x ∈ xs, Tri Tryz.prog fid (x.av :: caps) [] (D (.bool (p x)) [])) :
    Tri Tryz.prog 55 [.sl (xs.map GRel.av), .fn fid caps] [] (D (.bool (xs.any p)) []) := by
  have hc := IndexFunc_Rel xs hl fid caps p hf
  refine Tri.enter 9 Tryz.func55 rfl rfl rfl rfl fun Fr w0 => ?_
  repeat (first
    | refine AL.det (AOp.call rfl rfl hc) rfl rfl rfl ?_
    | refine AL.ev rfl rfl rfl rfl ?_
    | refine AW.seq ?_
    | refine AL.nil ?_
    | refine AW.region ?_
    | refine AL.det (AOp.load_at rfl rfl (by kernel_rfl)) rfl rfl rfl ?_
    | refine AL.det (AOp.field_at rfl rfl (by kernel_rfl) rfl) rfl rfl rfl ?_
    | refine AL.det (AOp.len rfl rfl (by kernel_rfl)) rfl rfl rfl ?_
    | refine AL.det (AOp.field_ref rfl (by kernel_rfl)) rfl rfl rfl ?_
    | refine AL.guard_do rfl rfl rfl rfl ?_
    | refine AL.guard_skip rfl rfl rfl rfl rfl ?_
    | refine AW.cond_true rfl ?_
    | refine AW.cond_false rfl ?_
    | refine AW.block ?_
    | refine AW.endblk ?_
    | refine AW.skip ?_
    | refine AW.exit rfl ?_
    | refine AW.label ?_
    | refine AL.det (AOp.add rfl rfl (by omega)) rfl rfl rfl ?_
    | refine AL.det (AOp.sub rfl rfl (by omega)) rfl rfl rfl ?_
    | refine AL.det (AOp.max2 rfl rfl) rfl rfl rfl ?_
    | refine AL.det (AOp.min2 rfl rfl) rfl rfl rfl ?_
    | refine AL.det (AOp.bool_eq (by kernel_rfl) rfl rfl) rfl rfl rfl ?_
    | refine AL.det (AOp.bool_ne (by kernel_rfl) rfl rfl) rfl rfl rfl ?_
    | refine AL.det (AOp.build (by kernel_rfl) rfl rfl rfl) rfl rfl rfl ?_)
  refine AW.retv rfl ⟨?_, rfl⟩
  have := idxFrom_lt (p := p) xs 0
  have h2 : decide (idxFrom p xs 0 ≥ 0) = xs.any p := by rw [Bool.eq_iff_iff, decide_eq_true_iff, this]
  rw [h2]
def letterB (n : Int) : Bool := decide (97 ≤ n) && decide (n ≤ 122) || decide (65 ≤ n) && decide (n ≤ 90)
def digitB (n : Int) : Bool := decide (48 ≤ n) && decide (n ≤ 57)
theorem shape_letter (n : Int) : Tri Tryz.prog 88 [.int .u8 n] [] (D (.bool (letterB n)) []) := by
  refine Tri.enter 17 Tryz.func88 rfl rfl rfl rfl fun Fr w0 => ?_
  repeat' (first | refine AW.re 0 1 ?_ | (refine xS 1 3 ?_; (first | refine AL.es 4 ?_ | (refine AL.gx (fun hb => ?_) (fun hb => ?_) <;> refine AL.es 4 ?_)) <;> (first | refine AL.es 3 ?_ | (refine AL.gx (fun hb => ?_) (fun hb => ?_) <;> refine AL.es 3 ?_)) <;> (first | refine AL.es 5 ?_ | (refine AL.gx (fun hb => ?_) (fun hb => ?_) <;> refine AL.es 5 ?_)) <;> refine AL.nil ?_) | refine AW.jt ?_ | refine AW.jf ?_ | refine AW.jj (fun hb => ?_) (fun hb => ?_) | refine AW.go ?_ | fail)
  all_goals refine AW.retv rfl ⟨?_, rfl⟩
  all_goals simp_all [letterB, ofConst]
  all_goals omega
theorem shape_digit (n : Int) : Tri Tryz.prog 90 [.int .u8 n] [] (D (.bool (digitB n)) []) := by
  refine Tri.enter 9 Tryz.func90 rfl rfl rfl rfl fun Fr w0 => ?_
  repeat' (first | refine AW.re 0 1 ?_ | (refine xS 1 3 ?_; (first | refine AL.es 4 ?_ | (refine AL.gx (fun hb => ?_) (fun hb => ?_) <;> refine AL.es 4 ?_)) <;> refine AL.nil ?_) | refine AW.jt ?_ | refine AW.jf ?_ | refine AW.jj (fun hb => ?_) (fun hb => ?_) | refine AW.go ?_ | fail)
  all_goals refine AW.retv rfl ⟨?_, rfl⟩
  all_goals simp_all [digitB, ofConst]
  all_goals omega
def wordB (s : ByteArray) : Bool := decide (s = ⟨#[97, 110, 100]⟩) || decide (s = ⟨#[111, 114]⟩) || decide (s = ⟨#[110, 111, 116]⟩) || decide (s = ⟨#[115, 111, 109, 101]⟩) || decide (s = ⟨#[97, 108, 108]⟩) || decide (s = ⟨#[108, 102, 112]⟩) || decide (s = ⟨#[112, 102, 112]⟩) ||
  decide (s = ⟨#[116, 99]⟩) || decide (s = ⟨#[101, 120, 105, 115, 116, 115]⟩) || decide (s = ⟨#[116, 114, 117, 101]⟩) || decide (s = ⟨#[102, 97, 108, 115, 101]⟩)
theorem shape_word (s : ByteArray) : Tri Tryz.prog 89 [.str s] [] (D (.bool (wordB s)) []) := by
  refine Tri.enter 16 Tryz.func89 rfl rfl rfl rfl fun Fr w0 => ?_
  repeat' (first | refine AW.re 0 1 ?_ | refine AW.re 1 1 ?_ | refine AW.re 2 2 ?_ | refine AW.re 3 2 ?_ | refine AW.re 4 2 ?_ | refine AW.re 5 2 ?_ | refine AW.re 6 2 ?_ | refine AW.re 7 2 ?_ | refine AW.re 8 2 ?_ | refine AW.re 9 2 ?_ | refine AW.re 10 2 ?_ | refine AW.re 11 2 ?_ | refine AW.re 12 2 ?_ | refine AW.re 13 1 ?_ | refine AW.re 14 1 ?_ | refine AW.jt ?_ | refine AW.jf ?_ | refine AW.jj (fun hb => ?_) (fun hb => ?_) | refine AW.go ?_ | fail)
  all_goals refine AW.retv rfl ⟨?_, rfl⟩
  all_goals simp only [toList_beq, dT, dF] at *
  all_goals simp_all [wordB, ofConst]
def nameB (s : ByteArray) : Bool := decide (0 < s.size) && decide (s.size ≤ 12) && letterB (byteAt s 0) && !wordB s && (List.range s.size).all fun i => letterB (byteAt s i) || digitB (byteAt s i)
theorem nameB_false {s : ByteArray} {k : Nat} (hk : k < s.size) (h1 : letterB (byteAt s k) = false) (h2 : digitB (byteAt s k) = false) : nameB s = false := by
  have : ((List.range s.size).all fun i => letterB (byteAt s i) || digitB (byteAt s i)) = false := by
    rw [Bool.eq_false_iff]
    intro h
    rw [List.all_eq_true] at h
    have := h k (List.mem_range.2 hk)
    simp [h1, h2] at this
  simp [nameB, this]
theorem shape_Name (s : ByteArray) (hs : strOk s) : Tri Tryz.prog 48 [.str s] [] (D (.bool (nameB s)) []) := by
  unfold strOk at hs
  refine Tri.enter 39 Tryz.func48 rfl rfl rfl rfl fun Fr w0 => ?_
  repeat' (first | refine AW.re 0 1 ?_ | (refine xS 1 3 ?_; (first | refine AL.es 5 ?_ | (refine AL.gx (fun hb => ?_) (fun hb => ?_) <;> refine AL.es 5 ?_)) <;> (first | refine AL.es 1 ?_ | (refine AL.gx (fun hb => ?_) (fun hb => ?_) <;> refine AL.es 1 ?_)) <;> (first | (refine AL.gd ?_; refine AL.d (AOp.str_at (by kernel_rfl) rfl rfl (by omega) (by have h0 := size_pos_of (by assumption); first | exact h0 | omega)) ?_) | refine AL.gs ?_ | refine AL.gu ?_) <;> (first | (refine AL.gd ?_; (first | refine AL.d (AOp.call rfl rfl (shape_letter _)) ?_ | refine AL.d (AOp.call rfl rfl (shape_word _)) ?_)) | refine AL.gs ?_ | refine AL.gu ?_) <;> refine AL.es 3 ?_ <;> (first | refine AL.es 1 ?_ | (refine AL.gx (fun hb => ?_) (fun hb => ?_) <;> refine AL.es 1 ?_)) <;> (first | (refine AL.gd ?_; (first | refine AL.d (AOp.call rfl rfl (shape_letter _)) ?_ | refine AL.d (AOp.call rfl rfl (shape_word _)) ?_)) | refine AL.gs ?_ | refine AL.gu ?_) <;> refine AL.es 1 ?_ <;> refine AL.nil ?_) | refine AW.re 2 1 ?_ | refine AW.re 3 3 ?_ | refine AW.jt ?_ | refine AW.jf ?_ | refine AW.jj (fun hb => ?_) (fun hb => ?_) | refine AW.go ?_ | fail)
  · have h := size_zero_of hb
    exact AW.retv rfl ⟨by simp [nameB, h, ofConst], rfl⟩
  · have h := of_decide_eq_true hb
    have h' : ¬ s.size ≤ 12 := by omega
    exact AW.retv rfl ⟨by simp [nameB, h', ofConst], rfl⟩
  · have h : letterB (byteAt s 0) = false := by simpa using hb
    exact AW.retv rfl ⟨by simp [nameB, h, ofConst], rfl⟩
  · have h : wordB s = true := hb
    exact AW.retv rfl ⟨by simp [nameB, h, ofConst], rfl⟩
  rename_i h1 h2 h3
  have k1 := size_pos_of h1
  have k2 : s.size ≤ 12 := by have := of_decide_eq_false h2; omega
  have k3 : letterB (byteAt s 0) = true := by simpa using h3
  have k4 : wordB s = false := hb
  clear h1 h2 h3 hb
  refine AW.prune [0, 22, 23] (AW.loop (fun m af h => ∃ k : Nat, k ≤ s.size ∧ m = s.size - k ∧ af = [(0, .str s), (22, .int .i64 s.size), (23, .int .i64 k)] ∧ h = [] ∧ ∀ j, j < k → (letterB (byteAt s j) || digitB (byteAt s j)) = true) s.size ⟨0, Nat.zero_le _, rfl, rfl, rfl, by omega⟩ ?_)
  rintro m af h ⟨k, hk, rfl, rfl, rfl, hp⟩
  repeat' (first | refine AW.re 0 1 ?_ | (refine xS 1 3 ?_; (first | refine AL.es 5 ?_ | (refine AL.gx (fun hb => ?_) (fun hb => ?_) <;> refine AL.es 5 ?_)) <;> (first | refine AL.es 1 ?_ | (refine AL.gx (fun hb => ?_) (fun hb => ?_) <;> refine AL.es 1 ?_)) <;> (first | (refine AL.gd ?_; refine AL.d (AOp.str_at (by kernel_rfl) rfl rfl (by omega) (by have h0 := of_decide_eq_true (by assumption); omega)) ?_) | refine AL.gs ?_ | refine AL.gu ?_) <;> (first | (refine AL.gd ?_; (first | refine AL.d (AOp.call rfl rfl (shape_letter _)) ?_ | refine AL.d (AOp.call rfl rfl (shape_digit _)) ?_)) | refine AL.gs ?_ | refine AL.gu ?_) <;> refine AL.es 3 ?_ <;> (first | refine AL.es 1 ?_ | (refine AL.gx (fun hb => ?_) (fun hb => ?_) <;> refine AL.es 1 ?_)) <;> (first | (refine AL.gd ?_; (first | refine AL.d (AOp.call rfl rfl (shape_letter _)) ?_ | refine AL.d (AOp.call rfl rfl (shape_digit _)) ?_)) | refine AL.gs ?_ | refine AL.gu ?_) <;> refine AL.es 1 ?_ <;> refine AL.nil ?_) | refine AW.re 2 1 ?_ | refine AW.re 3 3 ?_ | refine AW.re 4 1 ?_ | refine AW.re 5 2 ?_ | (refine xS 6 2 ?_; refine AL.d (AOp.str_at (by kernel_rfl) rfl rfl (by omega) (by have h0 := of_decide_eq_true (by assumption); omega)) ?_ <;> (first | refine AL.d (AOp.call rfl rfl (shape_letter _)) ?_ | refine AL.d (AOp.call rfl rfl (shape_digit _)) ?_) <;> refine AL.es 2 ?_ <;> (first | refine AL.es 2 ?_ | (refine AL.gx (fun hb => ?_) (fun hb => ?_) <;> refine AL.es 2 ?_)) <;> (first | (refine AL.gd ?_; refine AL.d (AOp.str_at (by kernel_rfl) rfl rfl (by omega) (by have h0 := of_decide_eq_true (by assumption); omega)) ?_) | refine AL.gs ?_ | refine AL.gu ?_) <;> (first | (refine AL.gd ?_; (first | refine AL.d (AOp.call rfl rfl (shape_letter _)) ?_ | refine AL.d (AOp.call rfl rfl (shape_digit _)) ?_)) | refine AL.gs ?_ | refine AL.gu ?_) <;> refine AL.es 2 ?_ <;> refine AL.nil ?_) | refine AW.re 7 1 ?_ | (refine AW.r 8 ?_; refine AL.d AOp.ad ?_; refine xN 1 ?_) | refine AW.re 9 1 ?_ | refine AW.jt ?_ | refine AW.jf ?_ | refine AW.jj (fun hb => ?_) (fun hb => ?_) | refine AW.go ?_ | fail)
  · rename_i g1 g2
    have hk' : k < s.size := by have := of_decide_eq_true g1; omega
    exact AW.retv rfl ⟨by rw [nameB_false hk' (by simpa using g2) (by simpa using hb)]; rfl, rfl⟩
  · rename_i g1 g2
    have hk' : k < s.size := by have := of_decide_eq_true g1; omega
    refine AW.again_keep (s.size - (k + 1)) [0, 22, 23] (by omega) ⟨k + 1, hk', rfl, rfl, rfl, fun j hj => ?_⟩
    rcases Nat.lt_or_ge j k with h | h
    · exact hp j h
    · obtain rfl : j = k := by omega
      have : digitB (byteAt s j) = true := by simpa using hb
      simp [this]
  · rename_i g1
    have hk' : k < s.size := by have := of_decide_eq_true g1; omega
    refine AW.again_keep (s.size - (k + 1)) [0, 22, 23] (by omega) ⟨k + 1, hk', rfl, rfl, rfl, fun j hj => ?_⟩
    rcases Nat.lt_or_ge j k with h | h
    · exact hp j h
    · obtain rfl : j = k := by omega
      have : letterB (byteAt s j) = true := by simpa using hb
      simp [this]
  · have hk' : k = s.size := by have := of_decide_eq_false hb; omega
    refine AW.retv rfl ⟨?_, rfl⟩
    have : ((List.range s.size).all fun i => letterB (byteAt s i) || digitB (byteAt s i)) = true := by
      rw [List.all_eq_true]
      intro j hj
      exact hp j (by rw [hk']; exact List.mem_range.1 hj)
    simp [nameB, k1, k2, k3, k4, this, ofConst]
def powGo (n : Int) : Nat → Int → Int
  | 0, p => p
  | k + 1, p => if p * n > 4096 then -1 else powGo n k (p * n)
theorem shape_power (n k : Int) (hn : 1 ≤ n ∧ n ≤ 64) (hk : 0 ≤ k ∧ k ≤ 12) : Tri Tryz.prog 53 [.int .i64 n, .int .i64 k, .int .i64 4096] [] (D (.int .i64 (powGo n k.toNat 1)) []) := by
  refine Tri.enter 19 Tryz.func53 rfl rfl rfl rfl fun Fr w0 => ?_
  repeat' (first | refine AW.re 0 1 ?_ | refine AW.re 1 1 ?_ | refine AW.re 2 2 ?_ | refine AW.jt ?_ | refine AW.jf ?_ | refine AW.jj (fun hb => ?_) (fun hb => ?_) | refine AW.go ?_ | fail)
  refine AW.prune [0, 1, 2, 7, 8, 9] (AW.loop (fun m af h => ∃ (i : Nat) (p : Int), i ≤ k.toNat ∧ m = k.toNat - i ∧ af = [(0, .int .i64 n), (1, .int .i64 k), (2, .int .i64 4096), (7, .int .i64 p), (8, .int .i64 k), (9, .int .i64 i)] ∧ h = [] ∧ 1 ≤ p ∧ p ≤ 4096 ∧ powGo n k.toNat 1 = powGo n (k.toNat - i) p) k.toNat ⟨0, 1, Nat.zero_le _, rfl, rfl, rfl, by omega, by omega, rfl⟩ ?_)
  rintro m af h ⟨i, p, hi, rfl, rfl, rfl, hp1, hp2, he⟩
  have hmul : 1 ≤ p * n ∧ p * n ≤ 4096 * 64 := ⟨by have := Int.mul_le_mul hp1 hn.1 (by omega) (by omega); omega, by have := Int.mul_le_mul hp2 hn.2 (by omega) (by omega); omega⟩
  repeat' (first | refine AW.re 0 1 ?_ | refine AW.re 1 1 ?_ | refine AW.re 2 2 ?_ | refine AW.re 3 1 ?_ | (refine xS 4 2 ?_; refine AL.d (AOp.mul rfl rfl (by omega)) ?_; refine xN 1 ?_) | refine AW.re 5 3 ?_ | refine AW.re 6 1 ?_ | (refine AW.r 7 ?_; (first | refine AL.d (AOp.mul rfl rfl (by omega)) ?_ | refine AL.d AOp.ad ?_) <;> refine AL.es 1 ?_ <;> refine AL.nil ?_) | refine AW.re 8 2 ?_ | refine AW.jt ?_ | refine AW.jf ?_ | refine AW.jj (fun hb => ?_) (fun hb => ?_) | refine AW.go ?_ | fail)
  · rename_i h1
    have h1 := of_decide_eq_true h1
    have h2 := of_decide_eq_true hb
    rw [show k.toNat - i = (k.toNat - (i + 1)) + 1 by omega] at he
    rw [powGo, if_pos h2] at he
    exact AW.retv rfl ⟨by rw [he]; rfl, rfl⟩
  · rename_i h1
    have h1 := of_decide_eq_true h1
    have h2 := of_decide_eq_false hb
    rw [show k.toNat - i = (k.toNat - (i + 1)) + 1 by omega] at he
    rw [powGo, if_neg h2] at he
    exact AW.again_keep (k.toNat - (i + 1)) [0, 1, 2, 7, 8, 9] (by omega) ⟨i + 1, p * n, by omega, rfl, rfl, rfl, hmul.1, by omega, he⟩
  · have h1 := of_decide_eq_false hb
    rw [show k.toNat - i = 0 by omega] at he
    exact AW.retv rfl ⟨by rw [he]; rfl, rfl⟩
def powerR (n k : Int) : Int × Int := if n < 1 ∨ n > 64 ∨ k < 0 ∨ k > 12 then (0, 2) else if powGo n k.toNat 1 < 0 then (0, 5) else (powGo n k.toNat 1, 0)
theorem shape_Power (n k : Int) : Tri Tryz.prog 29 [.int .i64 n, .int .i64 k] [] (D (.tup [.int .i64 (powerR n k).1, .int .i64 (powerR n k).2]) []) := by
  by_cases hg : n < 1 ∨ n > 64 ∨ k < 0 ∨ k > 12
  · rw [show powerR n k = (0, 2) by simp [powerR, hg]]
    refine Tri.enter 27 Tryz.func29 rfl rfl rfl rfl fun Fr w0 => ?_
    repeat' (first | refine AW.re 0 2 ?_ | (refine xS 1 3 ?_; (first | refine AL.es 4 ?_ | (refine AL.gx (fun hb => ?_) (fun hb => ?_) <;> refine AL.es 4 ?_)) <;> (first | refine AL.es 4 ?_ | (refine AL.gx (fun hb => ?_) (fun hb => ?_) <;> refine AL.es 4 ?_)) <;> (first | refine AL.es 3 ?_ | (refine AL.gx (fun hb => ?_) (fun hb => ?_) <;> refine AL.es 3 ?_)) <;> refine AL.nil ?_) | refine AW.re 2 2 ?_ | refine AW.jt ?_ | refine AW.jf ?_ | refine AW.jj (fun hb => ?_) (fun hb => ?_) | refine AW.go ?_ | fail)
    all_goals first | exact AW.retv rfl ⟨rfl, rfl⟩ | (exfalso; simp only [dT, dF] at *; omega)
  · have h1 := shape_power n k (by omega) (by omega)
    have e : powerR n k = if powGo n k.toNat 1 < 0 then (0, 5) else (powGo n k.toNat 1, 0) := by simp only [powerR, if_neg hg]
    rw [e]
    refine Tri.enter 27 Tryz.func29 rfl rfl rfl rfl fun Fr w0 => ?_
    repeat' (first | refine AW.re 0 2 ?_ | (refine xS 1 3 ?_; (first | refine AL.es 4 ?_ | (refine AL.gx (fun hb => ?_) (fun hb => ?_) <;> refine AL.es 4 ?_)) <;> (first | refine AL.es 4 ?_ | (refine AL.gx (fun hb => ?_) (fun hb => ?_) <;> refine AL.es 4 ?_)) <;> (first | refine AL.es 3 ?_ | (refine AL.gx (fun hb => ?_) (fun hb => ?_) <;> refine AL.es 3 ?_)) <;> refine AL.nil ?_) | refine AW.re 2 2 ?_ | (refine xS 3 2 ?_; refine AL.d (AOp.call rfl rfl h1) ?_; refine xN 1 ?_) | refine AW.re 4 2 ?_ | refine AW.re 5 2 ?_ | refine AW.re 6 3 ?_ | refine AW.jt ?_ | refine AW.jf ?_ | refine AW.jj (fun hb => ?_) (fun hb => ?_) | refine AW.go ?_ | fail)
    all_goals first
      | (exfalso; simp only [dT, dF] at *; omega)
      | (rename_i h2 h3 h4 h5; refine AW.retv rfl ⟨?_, rfl⟩; simp only [dT, dF] at hb; simp [hb, ofConst])
def elemsB (n : Int) (t : List Int) : Bool := !(t.any fun x => decide (x < 0) || decide (x ≥ n))
theorem elements1 (n x : Int) : Tri Tryz.prog 102 [.int .i64 x, .at (.int .i64 n)] [] (D (.bool (decide (x < 0) || decide (x ≥ n))) []) := by
  refine Tri.enter 11 Tryz.func102 rfl rfl rfl rfl fun Fr w0 => ?_
  repeat' (first | refine AW.re 0 1 ?_ | (refine xS 1 3 ?_; (first | refine AL.es 5 ?_ | (refine AL.gx (fun hb => ?_) (fun hb => ?_) <;> refine AL.es 5 ?_)) <;> refine AL.nil ?_) | refine AW.jt ?_ | refine AW.jf ?_ | refine AW.jj (fun hb => ?_) (fun hb => ?_) | refine AW.go ?_ | fail)
  · exact AW.retv rfl ⟨by simp [hb, ofConst], rfl⟩
  · exact AW.retv rfl ⟨by simp [hb], rfl⟩
theorem shape_elements (n : Int) (t : List Int) (hl : t.length ≤ 4611686018427387904) : Tri Tryz.prog 78 [.int .i64 n, ints t] [] (D (.bool (elemsB n t)) []) := by
  have hc := ContainsFunc_int t hl 102 [.at (.int .i64 n)] (fun x => decide (x < 0) || decide (x ≥ n)) fun x _ => elements1 n x
  refine Tri.enter 9 Tryz.func78 rfl rfl rfl rfl fun Fr w0 => ?_
  repeat' (first | (refine AW.r 0 ?_; refine AL.d (AOp.box_ro rfl rfl) ?_; refine xN 1 ?_) | (refine xS 1 2 ?_; refine AL.d (AOp.call rfl rfl hc) ?_; refine xN 2 ?_) | refine AW.jt ?_ | refine AW.jf ?_ | refine AW.jj (fun hb => ?_) (fun hb => ?_) | refine AW.go ?_ | fail)
  exact AW.retv rfl ⟨rfl, rfl⟩
def rankGo (n : Int) : List Int → Int → Int
  | [], r => r
  | x :: t, r => rankGo n t (r * n + x)
theorem powGo_eq {n : Int} (hn : 1 ≤ n) : ∀ (k : Nat) (p : Int), 1 ≤ p → p ≤ 4096 → 0 ≤ powGo n k p → powGo n k p = p * n ^ k ∧ p * n ^ k ≤ 4096
  | 0, p, h1, h2, _ => by simp [powGo, h2]
  | k + 1, p, h1, h2, h3 => by
    rw [powGo] at h3 ⊢
    by_cases h : p * n > 4096
    · rw [if_pos h] at h3; omega
    · rw [if_neg h] at h3 ⊢
      have hp : 1 ≤ p * n := by have := Int.mul_le_mul h1 hn (by omega) (by omega); omega
      have := powGo_eq hn k (p * n) hp (by omega) h3
      rw [Int.pow_succ, Int.mul_comm (n ^ k) n, ← Int.mul_assoc]
      exact this
theorem pow_le_of {n : Int} (hn : 1 ≤ n) {i k : Nat} (h : i ≤ k) : n ^ i ≤ n ^ k := by
  obtain ⟨d, rfl⟩ := Nat.exists_eq_add_of_le h
  induction d with
  | zero => simp
  | succ d ih =>
    have ih := ih (by omega)
    have h1 : 0 ≤ n ^ (i + d) := Int.pow_nonneg (by omega)
    have : n ^ (i + (d + 1)) = n ^ (i + d) * n := by rw [← Nat.add_assoc, Int.pow_succ]
    rw [this]
    have := Int.mul_le_mul_of_nonneg_left hn h1
    omega
def rankR (n : Int) (t : List Int) : Int × Int := if (powerR n t.length).2 = 0 then if elemsB n t then (rankGo n t 0, 0) else (0, 2) else (0, (powerR n t.length).2)
theorem powerR_ok {n : Int} {k : Int} (h : (powerR n k).2 = 0) : 1 ≤ n ∧ n ≤ 64 ∧ 0 ≤ k ∧ k ≤ 12 ∧ 0 ≤ powGo n k.toNat 1 := by
  unfold powerR at h
  split at h
  · simp at h
  · split at h
    · simp at h
    · omega
theorem elems_mem {n : Int} {t : List Int} (h : elemsB n t = true) : ∀ x ∈ t, 0 ≤ x ∧ x < n := by
  intro x hx
  simp only [elemsB, Bool.not_eq_true', List.any_eq_false] at h
  have := h x hx
  simp at this
  omega
theorem shape_Rank (n : Int) (t : List Int) (hl : t.length ≤ 4611686018427387904) : Tri Tryz.prog 30 [.int .i64 n, ints t] [] (D (.tup [.int .i64 (rankR n t).1, .int .i64 (rankR n t).2]) []) := by
  have hc : Tri Tryz.prog 29 [.int .i64 n, .int .i64 ((t.map iav).length : Nat)] [] (D (.tup [.int .i64 (powerR n t.length).1, .int .i64 (powerR n t.length).2]) []) := by rw [lM]; exact shape_Power n t.length
  have he := shape_elements n t hl
  unfold rankR
  by_cases h0 : (powerR n t.length).2 = 0
  · rw [if_pos h0]
    obtain ⟨g1, g2, g3, g4, g5⟩ := powerR_ok h0
    rw [h0] at hc
    by_cases hb : elemsB n t = true
    · rw [if_pos hb]
      rw [hb] at he
      have hpw := (powGo_eq g1 _ 1 (by omega) (by omega) g5).2
      simp only [Int.toNat_natCast, Int.one_mul] at hpw
      refine Tri.enter 38 Tryz.func30 rfl rfl rfl rfl fun Fr w0 => ?_
      repeat' (first | refine AW.re 0 2 ?_ | (refine xS 1 3 ?_; (first | refine AL.d (AOp.call rfl rfl hc) ?_ | refine AL.d (AOp.call rfl rfl he) ?_) <;> refine AL.es 5 ?_ <;> refine AL.nil ?_) | refine AW.re 2 2 ?_ | refine AW.re 3 3 ?_ | (refine xS 4 2 ?_; (first | refine AL.d (AOp.call rfl rfl hc) ?_ | refine AL.d (AOp.call rfl rfl he) ?_) <;> refine AL.es 1 ?_ <;> refine AL.nil ?_) | refine AW.re 5 2 ?_ | refine AW.re 6 1 ?_ | refine AW.re 7 3 ?_ | refine AW.re 8 1 ?_ | (refine AW.r 9 ?_; fail <;> refine AL.es 2 ?_ <;> refine AL.nil ?_) | (refine xS 10 2 ?_; fail <;> refine AL.es 1 ?_ <;> refine AL.d AOp.ad ?_ <;> refine AL.es 1 ?_ <;> refine AL.nil ?_) | (refine AW.r 11 ?_; refine AL.d AOp.ad ?_; refine xN 1 ?_) | refine AW.re 12 3 ?_ | refine AW.jt ?_ | refine AW.jf ?_ | refine AW.jj (fun hb => ?_) (fun hb => ?_) | refine AW.go ?_ | fail)
      refine AW.prune [0, 8, 25, 26, 27] (AW.loop (fun m af h => ∃ (i : Nat) (r : Int), i ≤ t.length ∧ m = t.length - i ∧ af = [(0, .int .i64 n), (8, .int .i64 r), (25, ints t), (26, .int .i64 (t.map iav).length), (27, .int .i64 i)] ∧ h = [] ∧ 0 ≤ r ∧ r < n ^ i ∧ rankGo n t 0 = rankGo n (t.drop i) r) t.length ⟨0, 0, Nat.zero_le _, rfl, rfl, rfl, by omega, by simp, rfl⟩ ?_)
      rintro m af h ⟨i, r, hi, rfl, rfl, rfl, hr1, hr2, hr⟩
      refine AW.seq ?_
      by_cases hlt : i < t.length
      · obtain ⟨x, hx⟩ := get_lt hlt
        have hx' : (t.map iav)[((i : Nat) : Int).toNat]? = some (iav x) := map_get hx
        have hxm := elems_mem hb x (lG hx)
        rw [drop_cons hx, rankGo] at hr
        have hmul : r * n + n ≤ n ^ (i + 1) := by
          rw [Int.pow_succ]
          have := Int.mul_le_mul_of_nonneg_right (show r + 1 ≤ n ^ i by omega) (show 0 ≤ n by omega)
          rw [Int.add_mul] at this; omega
        have hle := pow_le_of g1 (show i + 1 ≤ t.length by omega)
        have hnn : 0 ≤ r * n := Int.mul_nonneg hr1 (by omega)
        repeat' (first | refine AW.re 0 2 ?_ | (refine xS 1 3 ?_; fail <;> refine AL.es 5 ?_ <;> refine AL.nil ?_) | refine AW.re 2 2 ?_ | refine AW.re 3 3 ?_ | (refine xS 4 2 ?_; fail <;> refine AL.es 1 ?_ <;> refine AL.nil ?_) | refine AW.re 5 2 ?_ | refine AW.re 6 1 ?_ | refine AW.re 7 3 ?_ | refine AW.re 8 1 ?_ | (refine AW.r 9 ?_; refine AL.d (iX hx') ?_; refine xN 2 ?_) | (refine xS 10 2 ?_; refine AL.d (AOp.mul rfl rfl (by omega)) ?_; refine AL.es 1 ?_; (first | refine AL.d (AOp.mul rfl rfl (by omega)) ?_ | refine AL.d AOp.ad ?_) <;> refine AL.es 1 ?_ <;> refine AL.nil ?_) | (refine AW.r 11 ?_; (first | refine AL.d (AOp.mul rfl rfl (by omega)) ?_ | refine AL.d AOp.ad ?_) <;> refine AL.es 1 ?_ <;> refine AL.nil ?_) | refine AW.re 12 3 ?_ | refine AW.jt ?_ | refine AW.jf ?_ | refine AW.jj (fun hb => ?_) (fun hb => ?_) | refine AW.go ?_ | fail)
        · exact AW.again_keep (t.length - (i + 1)) [0, 8, 25, 26, 27] (by omega) ⟨i + 1, r * n + x, hlt, rfl, rfl, rfl, by omega, by omega, hr⟩
        · exfalso; have := of_decide_eq_false (by assumption); simp at this; omega
      · rw [List.drop_eq_nil_of_le (by omega), rankGo] at hr
        repeat' (first | refine AW.re 8 1 ?_ | refine AW.re 12 3 ?_ | refine AW.jt ?_ | refine AW.jf ?_ | refine AW.jj (fun hb => ?_) (fun hb => ?_) | refine AW.go ?_ | fail)
        · exfalso; have := of_decide_eq_true (by assumption); simp at this; omega
        · exact AW.retv rfl ⟨by rw [hr]; rfl, rfl⟩
    · rw [if_neg hb]
      simp only [Bool.not_eq_true] at hb
      rw [hb] at he
      refine Tri.enter 38 Tryz.func30 rfl rfl rfl rfl fun Fr w0 => ?_
      repeat' (first | refine AW.re 0 2 ?_ | (refine xS 1 3 ?_; (first | refine AL.d (AOp.call rfl rfl hc) ?_ | refine AL.d (AOp.call rfl rfl he) ?_) <;> refine AL.es 5 ?_ <;> refine AL.nil ?_) | refine AW.re 2 2 ?_ | refine AW.re 3 3 ?_ | (refine xS 4 2 ?_; (first | refine AL.d (AOp.call rfl rfl hc) ?_ | refine AL.d (AOp.call rfl rfl he) ?_) <;> refine AL.es 1 ?_ <;> refine AL.nil ?_) | refine AW.re 5 2 ?_ | refine AW.re 6 1 ?_ | refine AW.re 7 3 ?_ | refine AW.re 8 1 ?_ | (refine AW.r 9 ?_; fail <;> refine AL.es 2 ?_ <;> refine AL.nil ?_) | (refine xS 10 2 ?_; fail <;> refine AL.es 1 ?_ <;> refine AL.d AOp.ad ?_ <;> refine AL.es 1 ?_ <;> refine AL.nil ?_) | (refine AW.r 11 ?_; refine AL.d AOp.ad ?_; refine xN 1 ?_) | refine AW.re 12 3 ?_ | refine AW.jt ?_ | refine AW.jf ?_ | refine AW.jj (fun hb => ?_) (fun hb => ?_) | refine AW.go ?_ | fail)
      exact AW.retv rfl ⟨rfl, rfl⟩
  · rw [if_neg h0]
    refine Tri.enter 38 Tryz.func30 rfl rfl rfl rfl fun Fr w0 => ?_
    repeat' (first | refine AW.re 0 2 ?_ | (refine xS 1 3 ?_; (first | refine AL.d (AOp.call rfl rfl hc) ?_ | refine AL.d (AOp.call rfl rfl he) ?_) <;> refine AL.es 5 ?_ <;> refine AL.nil ?_) | refine AW.re 2 2 ?_ | refine AW.re 3 3 ?_ | (refine xS 4 2 ?_; (first | refine AL.d (AOp.call rfl rfl hc) ?_ | refine AL.d (AOp.call rfl rfl he) ?_) <;> refine AL.es 1 ?_ <;> refine AL.nil ?_) | refine AW.re 5 2 ?_ | refine AW.re 6 1 ?_ | refine AW.re 7 3 ?_ | refine AW.re 8 1 ?_ | (refine AW.r 9 ?_; fail <;> refine AL.es 2 ?_ <;> refine AL.nil ?_) | (refine xS 10 2 ?_; fail <;> refine AL.es 1 ?_ <;> refine AL.d AOp.ad ?_ <;> refine AL.es 1 ?_ <;> refine AL.nil ?_) | (refine AW.r 11 ?_; refine AL.d AOp.ad ?_; refine xN 1 ?_) | refine AW.re 12 3 ?_ | refine AW.jt ?_ | refine AW.jf ?_ | refine AW.jj (fun hb => ?_) (fun hb => ?_) | refine AW.go ?_ | fail)
    · exact AW.retv rfl ⟨rfl, rfl⟩
    all_goals (exfalso; simp at *; omega)
def cmpI (a b : Int) : Int := if a < b then -1 else if a > b then 1 else 0
theorem cmp_isNaN (a : Int) : Tri Tryz.prog 128 [.int .i64 a] [] (D (.bool false) []) := by
  refine Tri.enter 6 Tryz.func128 rfl rfl rfl rfl fun Fr w0 => ?_
  repeat' (first | refine AW.re 0 1 ?_ | refine AW.re 1 4 ?_ | refine AW.jt ?_ | refine AW.jf ?_ | refine AW.jj (fun hb => ?_) (fun hb => ?_) | refine AW.go ?_ | fail)
  exact AW.retv rfl ⟨by simp, rfl⟩
theorem cmp_Compare (a b : Int) : Tri Tryz.prog 119 [.int .i64 a, .int .i64 b] [] (D (.int .i64 (cmpI a b)) []) := by
  have h1 := cmp_isNaN a
  have h2 := cmp_isNaN b
  refine Tri.enter 20 Tryz.func119 rfl rfl rfl rfl fun Fr w0 => ?_
  repeat' (first | refine AW.re 0 1 ?_ | (refine xS 1 1 ?_; (first | refine AL.d (AOp.call rfl rfl h1) ?_ | refine AL.d (AOp.call rfl rfl h2) ?_) <;> refine AL.es 1 ?_ <;> refine AL.nil ?_) | (refine xS 2 1 ?_; (first | refine AL.d (AOp.call rfl rfl h1) ?_ | refine AL.d (AOp.call rfl rfl h2) ?_) <;> refine AL.es 1 ?_ <;> refine AL.nil ?_) | refine AW.re 3 1 ?_ | refine AW.re 4 1 ?_ | refine AW.re 5 1 ?_ | refine AW.re 6 1 ?_ | refine AW.re 7 1 ?_ | refine AW.re 8 1 ?_ | refine AW.re 9 3 ?_ | refine AW.re 10 1 ?_ | refine AW.re 11 3 ?_ | refine AW.re 12 1 ?_ | refine AW.re 13 1 ?_ | refine AW.jt ?_ | refine AW.jf ?_ | refine AW.jj (fun hb => ?_) (fun hb => ?_) | refine AW.go ?_ | fail)
  all_goals (refine AW.retv rfl ⟨?_, rfl⟩; simp only [dT, dF] at *; unfold cmpI)
  · rw [if_pos hb]; rfl
  · rw [if_neg (by assumption), if_pos hb]; rfl
  · rw [if_neg (by assumption), if_neg hb]; rfl
def cmpL : List Int → List Int → Int
  | [], [] => 0
  | [], _ :: _ => -1
  | _ :: _, [] => 1
  | x :: xs, y :: ys => if cmpI x y = 0 then cmpL xs ys else cmpI x y
theorem slices_Compare (a b : List Int) (ha : a.length ≤ 4611686018427387904) (hb : b.length ≤ 4611686018427387904) : Tri Tryz.prog 99 [ints a, ints b] [] (D (.int .i64 (cmpL a b)) []) := by
  refine Tri.enter 36 Tryz.func99 rfl rfl rfl rfl fun Fr w0 => ?_
  repeat' (first | refine AW.re 0 1 ?_ | refine AW.re 1 3 ?_ | refine AW.jt ?_ | refine AW.jf ?_ | refine AW.jj (fun hb => ?_) (fun hb => ?_) | refine AW.go ?_ | fail)
  refine AW.prune [0, 1, 9, 10, 11] (AW.loop (fun m af h => ∃ i : Nat, i ≤ a.length ∧ i ≤ b.length ∧ m = a.length - i ∧ af = [(0, ints a), (1, ints b), (9, ints a), (10, .int .i64 (a.map iav).length), (11, .int .i64 i)] ∧ h = [] ∧ cmpL a b = cmpL (a.drop i) (b.drop i)) a.length ⟨0, Nat.zero_le _, Nat.zero_le _, rfl, rfl, rfl, rfl⟩ ?_)
  rintro m af h ⟨i, hi, hi2, rfl, rfl, rfl, he⟩
  refine AW.seq ?_
  by_cases hlt : i < a.length
  · obtain ⟨x, hx⟩ := get_lt hlt
    have hx' : (a.map iav)[((i : Nat) : Int).toNat]? = some (iav x) := map_get hx
    rw [drop_cons hx] at he
    by_cases hlt2 : i < b.length
    · obtain ⟨y, hy⟩ := get_lt hlt2
      have hy' : (b.map iav)[((i : Nat) : Int).toNat]? = some (iav y) := map_get hy
      rw [drop_cons hy, cmpL] at he
      repeat' (first | refine AW.re 0 1 ?_ | refine AW.re 1 3 ?_ | refine AW.re 2 1 ?_ | (refine xS 3 1 ?_; (first | refine AL.d (iX hx') ?_ | refine AL.d (iX hy') ?_) <;> refine AL.es 3 ?_ <;> refine AL.nil ?_) | refine AW.re 4 4 ?_ | refine AW.re 5 1 ?_ | (refine xS 6 2 ?_; (first | refine AL.d (iX hx') ?_ | refine AL.d (iX hy') ?_) <;> refine AL.es 2 ?_ <;> refine AL.nil ?_) | (refine xS 7 2 ?_; refine AL.d (AOp.call rfl rfl (cmp_Compare _ _)) ?_; refine xN 1 ?_) | refine AW.re 8 2 ?_ | refine AW.re 9 2 ?_ | (refine AW.r 10 ?_; refine AL.d AOp.ad ?_; refine xN 1 ?_) | refine AW.re 11 5 ?_ | refine AW.re 12 1 ?_ | refine AW.re 13 1 ?_ | refine AW.jt ?_ | refine AW.jf ?_ | refine AW.jj (fun hb => ?_) (fun hb => ?_) | refine AW.go ?_ | fail)
      · exfalso; have := of_decide_eq_true (by assumption); simp at this; omega
      · have h1 : cmpI x y ≠ 0 := by simpa using hb
        rw [if_neg h1] at he
        exact AW.retv rfl ⟨by rw [he], rfl⟩
      · have h1 : cmpI x y = 0 := by simpa using hb
        rw [if_pos h1] at he
        exact AW.again_keep (a.length - (i + 1)) [0, 1, 9, 10, 11] (by omega) ⟨i + 1, hlt, hlt2, rfl, rfl, rfl, he⟩
      all_goals (exfalso; rename_i h9; have := of_decide_eq_false h9; simp at this; omega)
    · rw [List.drop_eq_nil_of_le (show b.length ≤ i by omega), cmpL] at he
      repeat' (first | refine AW.re 2 1 ?_ | (refine xS 3 1 ?_; refine AL.d (iX hx') ?_; refine xN 3 ?_) | refine AW.re 4 4 ?_ | refine AW.re 5 1 ?_ | refine AW.jt ?_ | refine AW.jf ?_ | refine AW.jj (fun hb => ?_) (fun hb => ?_) | refine AW.go ?_ | fail)
      · exact AW.retv rfl ⟨by rw [he]; rfl, rfl⟩
      · exfalso; have := of_decide_eq_false hb; simp at this; omega
      · exfalso; have := of_decide_eq_false hb; simp at this; omega
  · rw [List.drop_eq_nil_of_le (show a.length ≤ i by omega)] at he
    repeat' (first | refine AW.re 2 1 ?_ | refine AW.re 11 5 ?_ | refine AW.re 12 1 ?_ | refine AW.re 13 1 ?_ | refine AW.jt ?_ | refine AW.jf ?_ | refine AW.jj (fun hb => ?_) (fun hb => ?_) | refine AW.go ?_ | fail)
    · exfalso; have := of_decide_eq_true (by assumption); simp at this; omega
    · have h1 := of_decide_eq_true (by assumption)
      simp at h1
      refine AW.retv rfl ⟨?_, rfl⟩
      cases hd : b.drop i with
      | nil => have := congrArg List.length hd; simp at this; omega
      | cons y ys => rw [hd, cmpL] at he; simp [he, ofConst]
    · have h1 := of_decide_eq_false (by assumption)
      simp at h1
      refine AW.retv rfl ⟨?_, rfl⟩
      rw [List.drop_eq_nil_of_le (by omega), cmpL] at he
      simp [he, ofConst]
def tupGo (n ar : Int) : Option (List Int) → List (List Int) → Bool
  | _, [] => true
  | prev, t :: ts => decide ((t.length : Int) = ar) && elemsB n t && (match prev with | none => true | some p => decide (cmpL p t < 0)) && tupGo n ar (some t) ts
theorem tupGo_cons (n ar : Int) (prev : Option (List Int)) (t : List Int) (ts : List (List Int)) : tupGo n ar prev (t :: ts) = (decide ((t.length : Int) = ar) && elemsB n t && (match prev with | none => true | some p => decide (cmpL p t < 0)) && tupGo n ar (some t) ts) := by cases prev <;> rfl
theorem tupGo_nil (n ar : Int) (prev : Option (List Int)) : tupGo n ar prev [] = true := by cases prev <;> rfl
def tuplesB (n : Int) (r : GRel) : Bool := tupGo n r.Arity none r.Tuples
theorem get_pred {α : Type} {l : List α} {i : Nat} (h : i ≤ l.length) (h0 : 0 < i) : ∃ p, l[i - 1]? = some p := get_lt (by omega)
theorem shape_tuples (n : Int) (r : GRel) (hl : r.Tuples.length ≤ 4611686018427387904) (hls : ∀ t ∈ r.Tuples, t.length ≤ 4611686018427387904) : Tri Tryz.prog 54 [.int .i64 n, r.av] [] (D (.bool (tuplesB n r)) []) := by
  have key : ∀ (i : Nat) (t : List Int), r.Tuples[i]? = some t → (r.Tuples.map ints)[((i : Nat) : Int).toNat]? = some (ints t) := fun i t h => map_get h
  refine Tri.enter 42 Tryz.func54 rfl rfl rfl rfl fun Fr w0 => ?_
  repeat' (first | (refine AW.r 0 ?_; (first | refine AL.d (AOp.box_ro (v := .st [.str r.Name, .int .i64 r.Arity, .sl (r.Tuples.map ints)]) rfl rfl) ?_ | refine AL.d (AOp.box_ro rfl rfl) ?_) <;> refine AL.es 1 ?_ <;> refine AL.nil ?_) | refine AW.re 1 4 ?_ | refine AW.jt ?_ | refine AW.jf ?_ | refine AW.jj (fun hb => ?_) (fun hb => ?_) | refine AW.go ?_ | fail)
  refine AW.prune [0, 3, 8, 9, 10] (AW.loop (fun m af h => ∃ i : Nat, i ≤ r.Tuples.length ∧ m = r.Tuples.length - i ∧ af = [(0, .int .i64 n), (3, .at (.st [.str r.Name, .int .i64 r.Arity, .sl (r.Tuples.map ints)])), (8, .sl (r.Tuples.map ints)), (9, .int .i64 (r.Tuples.map ints).length), (10, .int .i64 i)] ∧ h = [] ∧ tuplesB n r = tupGo n r.Arity (if i = 0 then none else r.Tuples[i - 1]?) (r.Tuples.drop i)) r.Tuples.length ⟨0, Nat.zero_le _, rfl, rfl, rfl, rfl⟩ ?_)
  rintro m af h ⟨i, hi, rfl, rfl, rfl, he⟩
  refine AW.seq ?_
  by_cases hlt : i < r.Tuples.length
  · obtain ⟨x, hx⟩ := get_lt hlt
    have hx' := key i x hx
    have hxl := hls x (lG hx)
    rw [drop_cons hx, tupGo_cons] at he
    have hn : tupGo n r.Arity (some x) (r.Tuples.drop (i + 1)) = tupGo n r.Arity (if i + 1 = 0 then none else r.Tuples[i + 1 - 1]?) (r.Tuples.drop (i + 1)) := by simp [hx]
    have hel := shape_elements n x hxl
    have hlen : ((x.map iav).length : Int) = x.length := by simp
    by_cases h0 : i = 0
    · subst h0
      repeat' (first | (refine AW.r 0 ?_; refine AL.d (AOp.box_ro rfl rfl) ?_; refine xN 1 ?_) | refine AW.re 1 4 ?_ | refine AW.re 2 1 ?_ | (refine xS 3 1 ?_; refine AL.d (iX hx') ?_; refine xN 3 ?_) | (refine xS 4 6 ?_; (first | refine AL.es 2 ?_ | (refine AL.gx (fun hb => ?_) (fun hb => ?_) <;> refine AL.es 2 ?_)) <;> (first | (refine AL.gd ?_; refine AL.d (AOp.call rfl rfl hel) ?_) | refine AL.gs ?_ | refine AL.gu ?_) <;> refine AL.es 3 ?_ <;> (first | refine AL.es 3 ?_ | (refine AL.gx (fun hb => ?_) (fun hb => ?_) <;> refine AL.es 3 ?_)) <;> (first | refine AL.es 3 ?_ | (refine AL.gx (fun hb => ?_) (fun hb => ?_) <;> refine AL.es 3 ?_)) <;> (first | (refine AL.gd ?_; refine AL.d AOp.sb ?_) | refine AL.gs ?_ | refine AL.gu ?_) <;> (first | (refine AL.gd ?_; refine AL.d (iX hx') ?_) | refine AL.gs ?_ | refine AL.gu ?_) <;> refine AL.es 2 ?_ <;> (first | (refine AL.gd ?_; refine AL.d (AOp.call rfl rfl hel) ?_) | refine AL.gs ?_ | refine AL.gu ?_) <;> refine AL.es 3 ?_ <;> refine AL.nil ?_) | refine AW.re 5 1 ?_ | (refine AW.r 6 ?_; refine AL.d AOp.ad ?_; refine xN 1 ?_) | refine AW.re 7 1 ?_ | refine AW.jt ?_ | refine AW.jf ?_ | refine AW.jj (fun hb => ?_) (fun hb => ?_) | refine AW.go ?_ | fail)
      all_goals first
        | (exfalso; simp only [dT, dF, lM, bne_iff_ne, ne_eq, bne_eq_false_iff_eq, Bool.not_eq_true', Bool.not_eq_false'] at *; omega)
        | (refine AW.retv rfl ⟨?_, rfl⟩; rw [he]; simp only [dT, dF, lM, bne_iff_ne, ne_eq, bne_eq_false_iff_eq, Bool.not_eq_true', Bool.not_eq_false'] at *; simp_all [ofConst]; done)
        | (refine AW.again_keep (r.Tuples.length - (0 + 1)) [0, 3, 8, 9, 10] (by omega) ⟨0 + 1, hlt, rfl, rfl, rfl, ?_⟩; rw [he, ← hn]; simp only [dT, dF, lM, bne_iff_ne, ne_eq, bne_eq_false_iff_eq, Bool.not_eq_true', Bool.not_eq_false'] at *; simp_all; done)
    · obtain ⟨p, hp⟩ := get_pred hi (by omega)
      rw [if_neg h0, hp] at he
      simp only at he
      have hp' : (r.Tuples.map ints)[((i : Int) - 1).toNat]? = some (ints p) := by rw [show ((i : Int) - 1).toNat = i - 1 by omega]; exact map_get hp
      have hpl := hls p (lG hp)
      repeat' (first | (refine AW.r 0 ?_; refine AL.d (AOp.box_ro rfl rfl) ?_; refine xN 1 ?_) | refine AW.re 1 4 ?_ | refine AW.re 2 1 ?_ | (refine xS 3 1 ?_; (first | refine AL.d (iX hx') ?_ | refine AL.d (iX hp') ?_) <;> refine AL.es 3 ?_ <;> refine AL.nil ?_) | (refine xS 4 6 ?_; (first | refine AL.es 2 ?_ | (refine AL.gx (fun hb => ?_) (fun hb => ?_) <;> refine AL.es 2 ?_)) <;> (first | (refine AL.gd ?_; (first | refine AL.d (AOp.call rfl rfl hel) ?_ | refine AL.d (AOp.call rfl rfl (slices_Compare p x hpl hxl)) ?_)) | refine AL.gs ?_ | refine AL.gu ?_) <;> refine AL.es 3 ?_ <;> (first | refine AL.es 3 ?_ | (refine AL.gx (fun hb => ?_) (fun hb => ?_) <;> refine AL.es 3 ?_)) <;> (first | refine AL.es 3 ?_ | (refine AL.gx (fun hb => ?_) (fun hb => ?_) <;> refine AL.es 3 ?_)) <;> (first | (refine AL.gd ?_; refine AL.d AOp.sb ?_) | refine AL.gs ?_ | refine AL.gu ?_) <;> (first | (refine AL.gd ?_; (first | refine AL.d (iX hx') ?_ | refine AL.d (iX hp') ?_)) | refine AL.gs ?_ | refine AL.gu ?_) <;> refine AL.es 2 ?_ <;> (first | (refine AL.gd ?_; (first | refine AL.d (AOp.call rfl rfl hel) ?_ | refine AL.d (AOp.call rfl rfl (slices_Compare p x hpl hxl)) ?_)) | refine AL.gs ?_ | refine AL.gu ?_) <;> refine AL.es 3 ?_ <;> refine AL.nil ?_) | refine AW.re 5 1 ?_ | (refine AW.r 6 ?_; refine AL.d AOp.ad ?_; refine xN 1 ?_) | refine AW.re 7 1 ?_ | refine AW.jt ?_ | refine AW.jf ?_ | refine AW.jj (fun hb => ?_) (fun hb => ?_) | refine AW.go ?_ | fail)
      all_goals first
        | (exfalso; simp only [dT, dF, lM, bne_iff_ne, ne_eq, bne_eq_false_iff_eq, Bool.not_eq_true', Bool.not_eq_false'] at *; omega)
        | (refine AW.retv rfl ⟨?_, rfl⟩; rw [he]; simp only [dT, dF, lM, bne_iff_ne, ne_eq, bne_eq_false_iff_eq, Bool.not_eq_true', Bool.not_eq_false'] at *; simp_all [ofConst]; try (intros; omega))
        | (refine AW.again_keep (r.Tuples.length - (i + 1)) [0, 3, 8, 9, 10] (by omega) ⟨i + 1, hlt, rfl, rfl, rfl, ?_⟩; rw [he, ← hn]; simp only [dT, dF, lM, bne_iff_ne, ne_eq, bne_eq_false_iff_eq, Bool.not_eq_true', Bool.not_eq_false'] at *; have hcm : cmpL p x < 0 := (by omega); simp_all; done)
  · rw [List.drop_eq_nil_of_le (by omega), tupGo_nil] at he
    repeat' (first | refine AW.re 2 1 ?_ | refine AW.re 7 1 ?_ | refine AW.jt ?_ | refine AW.jf ?_ | refine AW.jj (fun hb => ?_) (fun hb => ?_) | refine AW.go ?_ | fail)
    all_goals first
      | (exfalso; simp only [dT, dF, lM] at *; omega)
      | exact AW.retv rfl ⟨by rw [he]; rfl, rfl⟩
theorem Valid1 (q r : GRel) : Tri Tryz.prog 56 [q.av, .at r.av] [] (D (.bool (decide (q.Name = r.Name))) []) := by
  refine Tri.enter 9 Tryz.func56 rfl rfl rfl rfl fun Fr w0 => ?_
  repeat' (first | (refine AW.r 0 ?_; (first | refine AL.d (AOp.box_ro (v := .st [.str q.Name, .int .i64 q.Arity, .sl (q.Tuples.map ints)]) rfl rfl) ?_ | refine AL.d (AOp.box_ro rfl rfl) ?_) <;> refine AL.es 1 ?_ <;> refine AL.nil ?_) | (refine AW.r 1 ?_; (first | refine AL.d (AOp.field_at (fs := [.str r.Name, .int .i64 r.Arity, .sl (r.Tuples.map ints)]) rfl rfl (by kernel_rfl) rfl) ?_ | refine AL.d AOp.fa ?_ | refine AL.d (AOp.fr 0) ?_) <;> refine AL.es 1 ?_ <;> (first | refine AL.d (AOp.field_at (fs := [.str r.Name, .int .i64 r.Arity, .sl (r.Tuples.map ints)]) rfl rfl (by kernel_rfl) rfl) ?_ | refine AL.d AOp.fa ?_ | refine AL.d (AOp.fr 0) ?_) <;> refine AL.es 3 ?_ <;> refine AL.nil ?_) | refine AW.jt ?_ | refine AW.jf ?_ | refine AW.jj (fun hb => ?_) (fun hb => ?_) | refine AW.go ?_ | fail)
  exact AW.retv rfl ⟨by rw [toList_beq], rfl⟩
theorem Find1 (q : GRel) (name : ByteArray) (ar : Int) : Tri Tryz.prog 58 [q.av, .at (.str name), .at (.int .i64 ar)] [] (D (.bool (decide (q.Name = name) && decide (q.Arity = ar))) []) := by
  refine Tri.enter 15 Tryz.func58 rfl rfl rfl rfl fun Fr w0 => ?_
  repeat' (first | (refine AW.r 0 ?_; (first | refine AL.d (AOp.box_ro (v := .st [.str q.Name, .int .i64 q.Arity, .sl (q.Tuples.map ints)]) rfl rfl) ?_ | refine AL.d (AOp.box_ro rfl rfl) ?_) <;> refine AL.es 1 ?_ <;> refine AL.nil ?_) | (refine xS 1 5 ?_; (first | refine AL.es 6 ?_ | (refine AL.gx (fun hb => ?_) (fun hb => ?_) <;> refine AL.es 6 ?_)) <;> refine AL.nil ?_) | refine AW.jt ?_ | refine AW.jf ?_ | refine AW.jj (fun hb => ?_) (fun hb => ?_) | refine AW.go ?_ | fail)
  all_goals (refine AW.retv rfl ⟨?_, rfl⟩; simp only [toList_beq, dT, dF] at hb; simp [hb, ofConst])
  all_goals (rw [Bool.eq_iff_iff]; simp)
def findI (s : GStr) (name : ByteArray) (ar : Int) : Int := idxFrom (fun q : GRel => decide (q.Name = name) && decide (q.Arity = ar)) s.Rels 0
theorem shape_Find (s : GStr) (hl : s.Rels.length ≤ 4611686018427387904) (name : ByteArray) (ar : Int) : Tri Tryz.prog 27 [s.av, .str name, .int .i64 ar] [] (D (.int .i64 (findI s name ar)) []) := by
  have hc := IndexFunc_Rel s.Rels hl 58 [.at (.str name), .at (.int .i64 ar)] _ fun q _ => Find1 q name ar
  refine Tri.enter 11 Tryz.func27 rfl rfl rfl rfl fun Fr w0 => ?_
  repeat' (first | (refine AW.r 0 ?_; (first | refine AL.d (AOp.box_ro (v := .st [.int .i64 s.Size, .sl (s.Rels.map GRel.av)]) rfl rfl) ?_ | refine AL.d (AOp.box_ro rfl rfl) ?_ | refine AL.d (AOp.box_ro rfl rfl) ?_) <;> (first | refine AL.d (AOp.box_ro (v := .st [.int .i64 s.Size, .sl (s.Rels.map GRel.av)]) rfl rfl) ?_ | refine AL.d (AOp.box_ro rfl rfl) ?_ | refine AL.d (AOp.box_ro rfl rfl) ?_) <;> (first | refine AL.d (AOp.box_ro (v := .st [.int .i64 s.Size, .sl (s.Rels.map GRel.av)]) rfl rfl) ?_ | refine AL.d (AOp.box_ro rfl rfl) ?_ | refine AL.d (AOp.box_ro rfl rfl) ?_) <;> refine AL.es 1 ?_ <;> refine AL.nil ?_) | (refine xS 1 3 ?_; refine AL.d (AOp.call rfl rfl hc) ?_; refine xN 1 ?_) | refine AW.jt ?_ | refine AW.jf ?_ | refine AW.jj (fun hb => ?_) (fun hb => ?_) | refine AW.go ?_ | fail)
  exact AW.retv rfl ⟨rfl, rfl⟩
def relB (n : Int) (r : GRel) : Bool := nameB r.Name && decide (0 ≤ r.Arity) && decide (r.Arity ≤ 12) && decide (0 ≤ powGo n r.Arity.toNat 1) && tuplesB n r
def relsGo (n : Int) (all : List GRel) : Nat → List GRel → Bool
  | _, [] => true
  | i, r :: rs => relB n r && !((all.take i).any fun q => decide (q.Name = r.Name)) && relsGo n all (i + 1) rs
def validStr (s : GStr) : Bool := decide (1 ≤ s.Size) && decide (s.Size ≤ 64) && decide (s.Rels.length ≤ 8) && relsGo s.Size s.Rels 0 s.Rels
theorem shape_Valid (s : GStr) (hs : s.Ok) : Tri Tryz.prog 26 [s.av] [] (D (.bool (validStr s)) []) := by
  obtain ⟨hs1, hs2, hs3⟩ := hs
  by_cases hg : 1 ≤ s.Size ∧ s.Size ≤ 64 ∧ s.Rels.length ≤ 8
  · have hv : validStr s = relsGo s.Size s.Rels 0 s.Rels := by simp [validStr, hg.1, hg.2.1, hg.2.2]
    refine Tri.enter 63 Tryz.func26 rfl rfl rfl rfl fun Fr w0 => ?_
    repeat' (first | (refine AW.r 0 ?_; (first | refine AL.d (AOp.box_ro (v := .st [.int .i64 s.Size, .sl (s.Rels.map GRel.av)]) rfl rfl) ?_ | refine AL.d (AOp.box_ro rfl rfl) ?_) <;> refine AL.es 1 ?_ <;> refine AL.nil ?_) | (refine xS 1 4 ?_; (first | refine AL.es 5 ?_ | (refine AL.gx (fun hb => ?_) (fun hb => ?_) <;> refine AL.es 5 ?_)) <;> (first | refine AL.es 5 ?_ | (refine AL.gx (fun hb => ?_) (fun hb => ?_) <;> refine AL.es 5 ?_)) <;> refine AL.nil ?_) | refine AW.re 2 1 ?_ | refine AW.re 3 4 ?_ | refine AW.jt ?_ | refine AW.jf ?_ | refine AW.jj (fun hb => ?_) (fun hb => ?_) | refine AW.go ?_ | fail)
    all_goals try (exfalso; simp only [dT, dF, lM] at *; omega)
    refine AW.prune [1, 20, 21, 22] (AW.loop (fun m af h => ∃ i : Nat, i ≤ s.Rels.length ∧ m = s.Rels.length - i ∧ af = [(1, .at (.st [.int .i64 s.Size, .sl (s.Rels.map GRel.av)])), (20, .sl (s.Rels.map GRel.av)), (21, .int .i64 (s.Rels.map GRel.av).length), (22, .int .i64 i)] ∧ h = [] ∧ relsGo s.Size s.Rels 0 s.Rels = relsGo s.Size s.Rels i (s.Rels.drop i)) s.Rels.length ⟨0, Nat.zero_le _, rfl, rfl, rfl, rfl⟩ ?_)
    rintro m af h ⟨i, hi, rfl, rfl, rfl, he⟩
    refine AW.seq ?_
    by_cases hlt : i < s.Rels.length
    · obtain ⟨r, hx⟩ := get_lt hlt
      have hx' : (s.Rels.map GRel.av)[((i : Nat) : Int).toNat]? = some (.st [.str r.Name, .int .i64 r.Arity, .sl (r.Tuples.map ints)]) := map_get hx
      have hr := hs3 r (lG hx)
      obtain ⟨hr1, hr2, hr3, hr4⟩ := hr
      have c1 := shape_Name r.Name hr1
      have c2 : 0 ≤ r.Arity ∧ r.Arity ≤ 12 → _ := shape_power s.Size r.Arity ⟨hg.1, hg.2.1⟩
      have c3 := shape_tuples s.Size r (by omega) (fun t ht => by have := (hr4 t ht).1; omega)
      have c4 := ContainsFunc_Rel (s.Rels.take i) (by simp; omega) 56 [.at r.av] _ fun q _ => Valid1 q r
      have c4' : Tri Tryz.prog 55 [.sl (((s.Rels.map GRel.av).take i).drop 0), .fn 56 [.at (.st [.str r.Name, .int .i64 r.Arity, .sl (r.Tuples.map ints)])]] [] (D (.bool ((s.Rels.take i).any fun q => decide (q.Name = r.Name))) []) := by
        rw [List.drop_zero, ← List.map_take]; exact c4
      rw [drop_cons hx, relsGo, relB] at he
      clear c4
      generalize ((s.Rels.take i).any fun q => decide (q.Name = r.Name)) = A at c4' he
      repeat' (first | (refine AW.r 0 ?_; refine AL.d (AOp.box_ro rfl rfl) ?_; refine xN 1 ?_) | (refine xS 1 4 ?_; (first | refine AL.es 5 ?_ | (refine AL.gx (fun hb => ?_) (fun hb => ?_) <;> refine AL.es 5 ?_)) <;> (first | refine AL.es 5 ?_ | (refine AL.gx (fun hb => ?_) (fun hb => ?_) <;> refine AL.es 5 ?_)) <;> refine AL.nil ?_) | refine AW.re 2 1 ?_ | refine AW.re 3 4 ?_ | refine AW.re 4 1 ?_ | (refine xS 5 1 ?_; refine AL.d (iX hx') ?_; refine AL.es 1 ?_; refine AL.alloc_new (by kernel_rfl) rfl fun b4 => ?_; refine AL.es 1 ?_; refine AL.store_new rfl rfl (by kernel_rfl) rfl rfl ?_; refine AL.nil ?_) | (refine xS 6 2 ?_; (first | refine AL.d (AOp.call rfl rfl c1) ?_ | (refine AL.d (AOp.call rfl rfl (c2 (by simp only [dT, dF] at *; omega))) ?_) | refine AL.d (AOp.call rfl rfl c3) ?_ | refine AL.d (AOp.call rfl rfl c4') ?_) <;> refine AL.es 2 ?_ <;> (first | refine AL.es 5 ?_ | (refine AL.gx (fun hb => ?_) (fun hb => ?_) <;> refine AL.es 5 ?_)) <;> (first | refine AL.es 5 ?_ | (refine AL.gx (fun hb => ?_) (fun hb => ?_) <;> refine AL.es 5 ?_)) <;> (first | refine AL.es 4 ?_ | (refine AL.gx (fun hb => ?_) (fun hb => ?_) <;> refine AL.es 4 ?_)) <;> (first | (refine AL.gd ?_; (first | refine AL.d (AOp.call rfl rfl c1) ?_ | (refine AL.d (AOp.call rfl rfl (c2 (by simp only [dT, dF] at *; omega))) ?_) | refine AL.d (AOp.call rfl rfl c3) ?_ | refine AL.d (AOp.call rfl rfl c4') ?_)) | refine AL.gs ?_ | refine AL.gu ?_) <;> refine AL.es 3 ?_ <;> (first | refine AL.es 3 ?_ | (refine AL.gx (fun hb => ?_) (fun hb => ?_) <;> refine AL.es 3 ?_)) <;> (first | (refine AL.gd ?_; (first | refine AL.d (AOp.call rfl rfl c1) ?_ | (refine AL.d (AOp.call rfl rfl (c2 (by simp only [dT, dF] at *; omega))) ?_) | refine AL.d (AOp.call rfl rfl c3) ?_ | refine AL.d (AOp.call rfl rfl c4') ?_)) | refine AL.gs ?_ | refine AL.gu ?_) <;> refine AL.es 2 ?_ <;> refine AL.nil ?_) | refine AW.re 7 1 ?_ | (refine xS 8 3 ?_; refine AL.d (AOp.cut (sz := 3) rfl rfl (by kernel_rfl) (all_map fun _ => rfl) bndIs.none (bndIs.some rfl rfl) (by omega) (by simp; omega)) ?_ <;> refine AL.es 1 ?_ <;> (first | refine AL.d (AOp.call rfl rfl c1) ?_ | (refine AL.d (AOp.call rfl rfl (c2 (by simp only [dT, dF] at *; omega))) ?_) | refine AL.d (AOp.call rfl rfl c3) ?_ | refine AL.d (AOp.call rfl rfl c4') ?_) <;> refine AL.nil ?_) | refine AW.re 9 1 ?_ | (refine AW.r 10 ?_; refine AL.d AOp.ad ?_; refine xN 1 ?_) | refine AW.re 11 1 ?_ | refine AW.jt ?_ | refine AW.jf ?_ | refine AW.jj (fun hb => ?_) (fun hb => ?_) | refine AW.go ?_ | fail)
      all_goals first
        | (exfalso; simp only [dT, dF, lM] at *; omega)
        | (refine AW.retv rfl ⟨?_, rfl⟩; rw [hv, he]; simp only [dT, dF, Bool.not_eq_true', Bool.not_eq_false'] at *; simp_all [ofConst]; try (intros; omega))
        | (refine AW.again_keep (s.Rels.length - (i + 1)) [1, 20, 21, 22] (by omega) ⟨i + 1, hlt, rfl, rfl, rfl, ?_⟩; rw [he]; simp only [dT, dF, Bool.not_eq_true', Bool.not_eq_false'] at *; simp_all; try (intros; omega))
    · rw [List.drop_eq_nil_of_le (by omega), relsGo] at he
      repeat' (first | refine AW.re 4 1 ?_ | refine AW.re 11 1 ?_ | refine AW.jt ?_ | refine AW.jf ?_ | refine AW.jj (fun hb => ?_) (fun hb => ?_) | refine AW.go ?_ | fail)
      all_goals first
        | (exfalso; simp only [dT, dF, lM] at *; omega)
        | exact AW.retv rfl ⟨by rw [hv, he]; rfl, rfl⟩
  · have hv : validStr s = false := by
      simp only [validStr, Bool.and_eq_false_iff, dF]; omega
    rw [hv]
    refine Tri.enter 63 Tryz.func26 rfl rfl rfl rfl fun Fr w0 => ?_
    repeat' (first | (refine AW.r 0 ?_; (first | refine AL.d (AOp.box_ro (v := .st [.int .i64 s.Size, .sl (s.Rels.map GRel.av)]) rfl rfl) ?_ | refine AL.d (AOp.box_ro rfl rfl) ?_) <;> refine AL.es 1 ?_ <;> refine AL.nil ?_) | (refine xS 1 4 ?_; (first | refine AL.es 5 ?_ | (refine AL.gx (fun hb => ?_) (fun hb => ?_) <;> refine AL.es 5 ?_)) <;> (first | refine AL.es 5 ?_ | (refine AL.gx (fun hb => ?_) (fun hb => ?_) <;> refine AL.es 5 ?_)) <;> refine AL.nil ?_) | refine AW.re 2 1 ?_ | refine AW.re 3 4 ?_ | refine AW.jt ?_ | refine AW.jf ?_ | refine AW.jj (fun hb => ?_) (fun hb => ?_) | refine AW.go ?_ | fail)
    all_goals first
      | exact AW.retv rfl ⟨rfl, rfl⟩
      | (exfalso; simp only [dT, dF, lM] at *; omega)
def ownW (s : GStmt) : Int := 1 + s.Regs.length + s.Lit.At.length + ((s.Name.size : Int) + s.From.size + s.Lit.Name.size) / 50
mutual
def wgtS (most : Int) : GStmt → Int → Int
  | ⟨k, f, g, r, n, nm, fr, lit, regs, body, els⟩, a => wgtL most els (wgtL most body (a + ownW ⟨k, f, g, r, n, nm, fr, lit, regs, body, els⟩))
def wgtL (most : Int) : List GStmt → Int → Int
  | [], a => a
  | s :: l, a => if a ≤ most then wgtL most l (wgtS most s a) else a
end
theorem wgtS_eq (most : Int) (s : GStmt) (a : Int) : wgtS most s a = wgtL most s.Else (wgtL most s.Body (a + ownW s)) := by cases s; rfl
theorem ownW_le {s : GStmt} (h : s.Ok) : 1 ≤ ownW s ∧ ownW s ≤ 1099511627776000 := by
  obtain ⟨⟨_, _, _, _, _, h1, h2, h3, h4⟩, _⟩ := h
  obtain ⟨_, h5, h6⟩ := h3
  have := h4.1; have := h6.1
  unfold strOk at *
  unfold ownW
  omega
mutual
theorem wgtS_bd {most : Int} (hm : most ≤ 4611686018427387904) : ∀ (s : GStmt) (a : Int), s.Ok → 0 ≤ a → a ≤ most → 0 ≤ wgtS most s a ∧ wgtS most s a ≤ most + 1099511627776000
  | ⟨k, f, g, r, n, nm, fr, lit, regs, body, els⟩, a, h, h0, h1 => by
    have hw := ownW_le h
    rw [wgtS]
    obtain ⟨_, hb1, hb, he1, he⟩ := h
    have e1 := wgtL_bd hm body (a + ownW ⟨k, f, g, r, n, nm, fr, lit, regs, body, els⟩) hb (by omega) (by omega)
    exact wgtL_bd hm els _ he e1.1 e1.2
theorem wgtL_bd {most : Int} (hm : most ≤ 4611686018427387904) : ∀ (l : List GStmt) (a : Int), (∀ x ∈ l, x.Ok) → 0 ≤ a → a ≤ most + 1099511627776000 → 0 ≤ wgtL most l a ∧ wgtL most l a ≤ most + 1099511627776000
  | [], a, h, h0, h1 => by simp only [wgtL]; exact ⟨h0, h1⟩
  | s :: l, a, h, h0, h1 => by
    rw [wgtL]
    by_cases hc : a ≤ most
    · rw [if_pos hc]
      have e1 := wgtS_bd hm s a (h s (by simp)) h0 hc
      exact wgtL_bd hm l _ (fun x hx => h x (List.mem_cons_of_mem _ hx)) e1.1 e1.2
    · rw [if_neg hc]; exact ⟨h0, h1⟩
end
theorem law_weigh (most : Int) (hm : 0 ≤ most ∧ most ≤ 1000000) : ∀ (n : Nat) (l : List GStmt) (a : Int) (hn : cntL l ≤ n) (hl : l.length ≤ 4611686018427387904) (ho : ∀ x ∈ l, x.Ok) (h0 : 0 ≤ a) (h1 : a ≤ most + 1099511627776000),
    Tri Tryz.prog 11 [.sl (l.map GStmt.av), .int .i64 a, .int .i64 most] [] (D (.int .i64 (wgtL most l a)) []) := by
  intro n
  induction n using Nat.strongRecOn with
  | _ n ih =>
    intro l a hn hl ho h0 h1
    refine Tri.enter 74 Tryz.func11 rfl rfl rfl rfl fun Fr w0 => ?_
    repeat' (first | refine AW.re 0 1 ?_ | refine AW.re 1 1 ?_ | refine AW.jt ?_ | refine AW.jf ?_ | refine AW.jj (fun hb => ?_) (fun hb => ?_) | refine AW.go ?_ | fail)
    refine AW.prune [0, 1, 2, 7] (AW.loop (fun m af h => ∃ (i : Nat) (b : Int), i ≤ l.length ∧ m = l.length - i ∧ af = [(0, .sl (l.map GStmt.av)), (1, .int .i64 b), (2, .int .i64 most), (7, .int .i64 i)] ∧ h = [] ∧ 0 ≤ b ∧ b ≤ most + 1099511627776000 ∧ wgtL most l a = wgtL most (l.drop i) b) l.length ⟨0, a, Nat.zero_le _, rfl, rfl, rfl, h0, h1, rfl⟩ ?_)
    rintro m af h ⟨i, b, hi, rfl, rfl, rfl, g0, g1, he⟩
    refine AW.seq ?_
    by_cases hlt : i < l.length ∧ b ≤ most
    · obtain ⟨x, hx⟩ := get_lt hlt.1
      have hx' : (l.map GStmt.av)[((i : Nat) : Int).toNat]? = some x.st := GStmt.get hx
      have hxm := lG hx
      have hxo := ho x hxm
      have hw := ownW_le hxo
      have hc := cnt_mem hxm
      have hc2 := cntS_eq x
      rw [drop_cons hx, wgtL, if_pos hlt.2, wgtS_eq] at he
      obtain ⟨⟨_, _, _, _, _, k1, k2, k3, k4⟩, kb1, kb, ke1, ke⟩ := hxo
      obtain ⟨_, k5, k6⟩ := k3
      have k7 := k4.1; have k8 := k6.1
      unfold strOk at k1 k2 k5
      have e1 := wgtL_bd (most := most) (by omega) x.Body (b + ownW x) kb (by omega) (by omega)
      have e2 := wgtL_bd (most := most) (by omega) x.Else _ ke e1.1 e1.2
      have c1 := ih (cntL x.Body) (by omega) x.Body (b + ownW x) (Nat.le_refl _) (by omega) kb (by omega) (by omega)
      have c2 := ih (cntL x.Else) (by omega) x.Else _ (Nat.le_refl _) (by omega) ke e1.1 e1.2
      have hq : b + 1 + ((x.Regs.map iav).length : Nat) + ((x.Lit.At.map iav).length : Nat) + ((x.Name.size : Int) + x.From.size + x.Lit.Name.size) / 50 = b + ownW x := by unfold ownW; simp; omega
      generalize wgtL most x.Body (b + ownW x) = r1 at *
      generalize wgtL most x.Else r1 = r2 at *
      rw [← hq] at c1
      have hlr : (x.Regs.map iav).length = x.Regs.length := lM _
      have hla : (x.Lit.At.map iav).length = x.Lit.At.length := lM _
      repeat' (first | refine AW.re 0 1 ?_ | refine AW.re 1 1 ?_ | (refine xS 2 5 ?_; (first | refine AL.es 4 ?_ | (refine AL.gx (fun hb => ?_) (fun hb => ?_) <;> refine AL.es 4 ?_)) <;> refine AL.nil ?_) | (refine AW.dq 4 ?_; refine AQ.es 2 ?_; refine AQ.p rfl (iX hx') ?_; refine AQ.es 4 ?_; refine AQ.p rfl (iX hx') ?_; refine AQ.es 3 ?_; (first | refine AQ.p rfl (AOp.quo rfl rfl (by omega) (by omega)) ?_ | refine AQ.p rfl AOp.ad ?_) <;> refine AQ.es 2 ?_ <;> refine AQ.p rfl (iX hx') ?_ <;> refine AQ.es 3 ?_ <;> (first | refine AQ.p rfl (AOp.quo rfl rfl (by omega) (by omega)) ?_ | refine AQ.p rfl AOp.ad ?_) <;> refine AQ.es 2 ?_ <;> refine AQ.p rfl (iX hx') ?_ <;> refine AQ.es 4 ?_ <;> (first | refine AQ.p rfl (AOp.quo rfl rfl (by omega) (by omega)) ?_ | refine AQ.p rfl AOp.ad ?_) <;> refine AQ.es 2 ?_ <;> refine AQ.p rfl (iX hx') ?_ <;> refine AQ.es 5 ?_ <;> refine AQ.p rfl (iX hx') ?_ <;> refine AQ.es 3 ?_ <;> (first | refine AQ.p rfl (AOp.quo rfl rfl (by omega) (by omega)) ?_ | refine AQ.p rfl AOp.ad ?_) <;> refine AQ.es 2 ?_ <;> refine AQ.p rfl (iX hx') ?_ <;> refine AQ.es 4 ?_ <;> (first | refine AQ.p rfl (AOp.quo rfl rfl (by omega) (by omega)) ?_ | refine AQ.p rfl AOp.ad ?_) <;> refine AQ.p rfl (AOp.quo rfl rfl (by omega) (by omega)) ?_ <;> (first | refine AQ.p rfl (AOp.quo rfl rfl (by omega) (by omega)) ?_ | refine AQ.p rfl AOp.ad ?_) <;> refine AQ.es 1 ?_ <;> (first | refine AQ.p rfl (AOp.call rfl rfl c1) ?_ | refine AQ.p rfl (AOp.call rfl rfl c2) ?_) <;> refine AQ.es 1 ?_ <;> (first | refine AQ.p rfl (AOp.call rfl rfl c1) ?_ | refine AQ.p rfl (AOp.call rfl rfl c2) ?_) <;> refine AQ.es 1 ?_ <;> refine AQ.nil ?_) | (refine xS 3 1 ?_; (first | refine AL.d (AOp.quo rfl rfl (by omega) (by omega)) ?_ | refine AL.d AOp.ad ?_) <;> refine AL.es 1 ?_ <;> refine AL.nil ?_) | refine AW.re 5 2 ?_ | refine AW.jt ?_ | refine AW.jf ?_ | refine AW.jj (fun hb => ?_) (fun hb => ?_) | refine AW.go ?_ | fail)
      all_goals first
        | (exfalso; simp only [dT, dF, lM] at *; omega)
        | exact AW.again_keep (l.length - (i + 1)) [0, 1, 2, 7] (by omega) ⟨i + 1, r2, hlt.1, rfl, rfl, rfl, e2.1, e2.2, he⟩
    · have he' : wgtL most l a = b := by
        rw [he]
        by_cases hd : i < l.length
        · obtain ⟨x, hx⟩ := get_lt hd
          rw [drop_cons hx, wgtL, if_neg (by omega)]
        · rw [List.drop_eq_nil_of_le (by omega), wgtL]
      repeat' (first | (refine xS 2 5 ?_; (first | refine AL.es 4 ?_ | (refine AL.gx (fun hb => ?_) (fun hb => ?_) <;> refine AL.es 4 ?_)) <;> refine AL.nil ?_) | refine AW.re 5 2 ?_ | refine AW.jt ?_ | refine AW.jf ?_ | refine AW.jj (fun hb => ?_) (fun hb => ?_) | refine AW.go ?_ | fail)
      all_goals first
        | (exfalso; simp only [dT, dF, lM] at *; omega)
        | exact AW.retv rfl ⟨by rw [he'], rfl⟩
def fewC (c : GCode) (most : Int) : Bool := decide (c.Arrays.length ≤ 70) && decide (wgtL most c.Body 0 ≤ most)
theorem law_Few (c : GCode) (hc : c.Ok) (most : Int) (hm : 0 ≤ most ∧ most ≤ 1000000) : Tri Tryz.prog 4 [c.av, .int .i64 most] [] (D (.bool (fewC c most)) []) := by
  obtain ⟨_, _, h3, h4⟩ := hc
  have h := law_weigh most hm (cntL c.Body) c.Body 0 (Nat.le_refl _) (by have := h4.1; omega) h4.2 (by omega) (by omega)
  have hla : (c.Arrays.map GSym.av).length = c.Arrays.length := lM _
  refine Tri.enter 17 Tryz.func4 rfl rfl rfl rfl fun Fr w0 => ?_
  repeat' (first | (refine AW.r 0 ?_; (first | refine AL.d (AOp.box_ro (v := .st [.int .i64 c.Flags, .int .i64 c.Regs, .sl (c.Arrays.map GSym.av), .sl (c.Body.map GStmt.av)]) rfl rfl) ?_ | refine AL.d (AOp.box_ro rfl rfl) ?_) <;> refine AL.es 1 ?_ <;> refine AL.nil ?_) | (refine xS 1 5 ?_; (first | refine AL.es 3 ?_ | (refine AL.gx (fun hb => ?_) (fun hb => ?_) <;> refine AL.es 3 ?_)) <;> (first | (refine AL.gd ?_; refine AL.d (AOp.call rfl rfl h) ?_) | refine AL.gs ?_ | refine AL.gu ?_) <;> refine AL.es 4 ?_ <;> refine AL.nil ?_) | refine AW.jt ?_ | refine AW.jf ?_ | refine AW.jj (fun hb => ?_) (fun hb => ?_) | refine AW.go ?_ | fail)
  all_goals (refine AW.retv rfl ⟨?_, rfl⟩; simp only [dT, dF, lM] at hb; unfold fewC)
  · rw [decide_eq_true (show c.Arrays.length ≤ 70 by omega)]; rfl
  · rw [decide_eq_false (show ¬ c.Arrays.length ≤ 70 by omega)]; rfl
theorem ref_Equal (a b : List Int) (ha : a.length ≤ 4611686018427387904) (hb : b.length ≤ 4611686018427387904) : Tri Tryz.prog 15 [ints a, ints b] [] (D (.bool (decide (a = b))) []) := by
  by_cases hl : a.length = b.length
  · refine Tri.enter 26 Tryz.func15 rfl rfl rfl rfl fun Fr w0 => ?_
    repeat' (first | refine AW.re 0 1 ?_ | refine AW.re 1 5 ?_ | refine AW.re 2 1 ?_ | refine AW.re 3 1 ?_ | refine AW.jt ?_ | refine AW.jf ?_ | refine AW.jj (fun hb => ?_) (fun hb => ?_) | refine AW.go ?_ | fail)
    · exfalso; simp [hl] at hb
    rename_i hb1
    refine AW.prune [0, 1, 5] (AW.loop (fun m af h => ∃ i : Nat, i ≤ a.length ∧ m = a.length - i ∧ af = [(0, ints a), (1, ints b), (5, .int .i64 i)] ∧ h = [] ∧ (a = b ↔ a.drop i = b.drop i)) a.length ⟨0, Nat.zero_le _, rfl, rfl, rfl, Iff.rfl⟩ ?_)
    rintro m af h ⟨i, hi, rfl, rfl, rfl, he⟩
    refine AW.seq ?_
    by_cases hlt : i < a.length
    · obtain ⟨x, hx⟩ := get_lt hlt
      obtain ⟨y, hy⟩ := get_lt (hl ▸ hlt)
      have hx' : (a.map iav)[((i : Nat) : Int).toNat]? = some (iav x) := map_get hx
      have hy' : (b.map iav)[((i : Nat) : Int).toNat]? = some (iav y) := map_get hy
      rw [drop_cons hx, drop_cons hy, List.cons.injEq] at he
      repeat' (first | refine AW.re 0 1 ?_ | refine AW.re 1 5 ?_ | refine AW.re 2 1 ?_ | refine AW.re 3 1 ?_ | refine AW.re 4 4 ?_ | (refine AW.dq 6 ?_; refine AQ.es 2 ?_; (first | refine AQ.p rfl (iX hx') ?_ | refine AQ.p rfl (iX hy') ?_) <;> refine AQ.es 3 ?_ <;> (first | refine AQ.p rfl (iX hx') ?_ | refine AQ.p rfl (iX hy') ?_) <;> refine AQ.es 2 ?_ <;> refine AQ.nil ?_) | refine AW.re 7 1 ?_ | (refine xS 5 1 ?_; refine AL.d AOp.ad ?_; refine xN 1 ?_) | refine AW.re 8 1 ?_ | refine AW.jt ?_ | refine AW.jf ?_ | refine AW.jj (fun hb => ?_) (fun hb => ?_) | refine AW.go ?_ | fail)
      all_goals first
        | (exfalso; simp only [dT, dF, lM] at *; omega)
        | (refine AW.retv rfl ⟨?_, rfl⟩; have hne : x ≠ y := (by simpa using hb); simp [he, hne, ofConst]; done)
        | (refine AW.again_keep (a.length - (i + 1)) [0, 1, 5] (by omega) ⟨i + 1, hlt, rfl, rfl, rfl, ?_⟩; have hne : x = y := (by simpa using hb); simp [he, hne]; done)
    · repeat' (first | refine AW.re 4 4 ?_ | refine AW.re 8 1 ?_ | refine AW.jt ?_ | refine AW.jf ?_ | refine AW.jj (fun hb => ?_) (fun hb => ?_) | refine AW.go ?_ | fail)
      all_goals first
        | (exfalso; simp only [dT, dF, lM] at *; omega)
        | (refine AW.retv rfl ⟨?_, rfl⟩; rw [List.drop_eq_nil_of_le (by omega), List.drop_eq_nil_of_le (by omega)] at he; simp [he, ofConst]; done)
  · have hne : a ≠ b := fun h => hl (by rw [h])
    refine Tri.enter 26 Tryz.func15 rfl rfl rfl rfl fun Fr w0 => ?_
    repeat' (first | refine AW.re 0 1 ?_ | refine AW.re 1 5 ?_ | refine AW.re 2 1 ?_ | refine AW.re 3 1 ?_ | refine AW.jt ?_ | refine AW.jf ?_ | refine AW.jj (fun hb => ?_) (fun hb => ?_) | refine AW.go ?_ | fail)
    · exact AW.retv rfl ⟨by simp [hne, ofConst], rfl⟩
    · exfalso; simp at hb; omega
structure Use where
  f : Bool := false
  g : Bool := false
  r : Bool := false
  n : Bool := false
  name : Bool := false
  frm : Bool := false
  lit : Bool := false
  regs : Bool := false
  body : Bool := false
  other : Bool := false
def Use.av (u : Use) : AV := .st [.bool u.f, .bool u.g, .bool u.r, .bool u.n, .bool u.name, .bool u.frm, .bool u.lit, .bool u.regs, .bool u.body, .bool u.other]
def useOf (k : Int) : Use :=
  if k = 0 then { f := true, lit := true } else if k = 1 then { f := true, g := true } else if k = 2 then { f := true, g := true } else if k = 3 then { f := true, g := true } else if k = 4 then { f := true, g := true } else if k = 5 then { f := true, g := true } else
  if k = 6 then { f := true, name := true, regs := true } else if k = 7 then { r := true, body := true } else if k = 8 then { f := true, body := true, other := true } else if k = 9 then { n := true, body := true } else if k = 10 then { f := true, body := true } else
  if k = 13 then { name := true, frm := true } else if k = 14 then { f := true, name := true, frm := true } else { name := true }
theorem code_fields (k : Int) : Tri Tryz.prog 91 [.int .i64 k] [] (D (useOf k).av []) := by
  refine Tri.enter 36 Tryz.func91 rfl rfl rfl rfl fun Fr w0 => ?_
  repeat' (first | (refine AW.r 0 ?_; refine AL.alloc_z (.st [.bool false, .bool false, .bool false, .bool false, .bool false, .bool false, .bool false, .bool false, .bool false, .bool false]) (by kernel_rfl) rfl rfl fun b => ?_; refine AL.nil ?_) | refine AW.re 1 1 ?_ | refine AW.re 2 2 ?_ | (refine AW.r 3 ?_; refine AL.d (AOp.build (pl := [(0, 1), (1, 1), (2, 1), (3, 1), (4, 1), (5, 1), (6, 1), (7, 1), (8, 1), (9, 1)]) (z := .st [.bool false, .bool false, .bool false, .bool false, .bool false, .bool false, .bool false, .bool false, .bool false, .bool false]) (by kernel_rfl) rfl rfl rfl) ?_ <;> refine AL.sl 0 ?_ <;> refine AL.nil ?_) | refine AW.re 4 2 ?_ | refine AW.re 5 2 ?_ | refine AW.re 6 2 ?_ | refine AW.re 7 2 ?_ | refine AW.re 8 2 ?_ | (refine AW.r 9 ?_; refine AL.d (AOp.build (pl := [(0, 1), (1, 1), (2, 1), (3, 1), (4, 1), (5, 1), (6, 1), (7, 1), (8, 1), (9, 1)]) (z := .st [.bool false, .bool false, .bool false, .bool false, .bool false, .bool false, .bool false, .bool false, .bool false, .bool false]) (by kernel_rfl) rfl rfl rfl) ?_ <;> refine AL.sl 0 ?_ <;> refine AL.nil ?_) | refine AW.re 10 2 ?_ | (refine AW.r 11 ?_; refine AL.d (AOp.build (pl := [(0, 1), (1, 1), (2, 1), (3, 1), (4, 1), (5, 1), (6, 1), (7, 1), (8, 1), (9, 1)]) (z := .st [.bool false, .bool false, .bool false, .bool false, .bool false, .bool false, .bool false, .bool false, .bool false, .bool false]) (by kernel_rfl) rfl rfl rfl) ?_ <;> refine AL.sl 0 ?_ <;> refine AL.nil ?_) | refine AW.re 12 2 ?_ | (refine AW.r 13 ?_; refine AL.d (AOp.build (pl := [(0, 1), (1, 1), (2, 1), (3, 1), (4, 1), (5, 1), (6, 1), (7, 1), (8, 1), (9, 1)]) (z := .st [.bool false, .bool false, .bool false, .bool false, .bool false, .bool false, .bool false, .bool false, .bool false, .bool false]) (by kernel_rfl) rfl rfl rfl) ?_ <;> refine AL.sl 0 ?_ <;> refine AL.nil ?_) | refine AW.re 14 2 ?_ | (refine AW.r 15 ?_; refine AL.d (AOp.build (pl := [(0, 1), (1, 1), (2, 1), (3, 1), (4, 1), (5, 1), (6, 1), (7, 1), (8, 1), (9, 1)]) (z := .st [.bool false, .bool false, .bool false, .bool false, .bool false, .bool false, .bool false, .bool false, .bool false, .bool false]) (by kernel_rfl) rfl rfl rfl) ?_ <;> refine AL.sl 0 ?_ <;> refine AL.nil ?_) | refine AW.re 16 2 ?_ | (refine AW.r 17 ?_; refine AL.d (AOp.build (pl := [(0, 1), (1, 1), (2, 1), (3, 1), (4, 1), (5, 1), (6, 1), (7, 1), (8, 1), (9, 1)]) (z := .st [.bool false, .bool false, .bool false, .bool false, .bool false, .bool false, .bool false, .bool false, .bool false, .bool false]) (by kernel_rfl) rfl rfl rfl) ?_ <;> refine AL.sl 0 ?_ <;> refine AL.nil ?_) | refine AW.re 18 2 ?_ | (refine AW.r 19 ?_; refine AL.d (AOp.build (pl := [(0, 1), (1, 1), (2, 1), (3, 1), (4, 1), (5, 1), (6, 1), (7, 1), (8, 1), (9, 1)]) (z := .st [.bool false, .bool false, .bool false, .bool false, .bool false, .bool false, .bool false, .bool false, .bool false, .bool false]) (by kernel_rfl) rfl rfl rfl) ?_ <;> refine AL.sl 0 ?_ <;> refine AL.nil ?_) | refine AW.re 20 2 ?_ | (refine AW.r 21 ?_; refine AL.d (AOp.build (pl := [(0, 1), (1, 1), (2, 1), (3, 1), (4, 1), (5, 1), (6, 1), (7, 1), (8, 1), (9, 1)]) (z := .st [.bool false, .bool false, .bool false, .bool false, .bool false, .bool false, .bool false, .bool false, .bool false, .bool false]) (by kernel_rfl) rfl rfl rfl) ?_ <;> refine AL.sl 0 ?_ <;> refine AL.nil ?_) | refine AW.re 22 2 ?_ | (refine AW.r 23 ?_; refine AL.d (AOp.build (pl := [(0, 1), (1, 1), (2, 1), (3, 1), (4, 1), (5, 1), (6, 1), (7, 1), (8, 1), (9, 1)]) (z := .st [.bool false, .bool false, .bool false, .bool false, .bool false, .bool false, .bool false, .bool false, .bool false, .bool false]) (by kernel_rfl) rfl rfl rfl) ?_ <;> refine AL.sl 0 ?_ <;> refine AL.nil ?_) | (refine AW.r 24 ?_; refine AL.d (AOp.build (pl := [(0, 1), (1, 1), (2, 1), (3, 1), (4, 1), (5, 1), (6, 1), (7, 1), (8, 1), (9, 1)]) (z := .st [.bool false, .bool false, .bool false, .bool false, .bool false, .bool false, .bool false, .bool false, .bool false, .bool false]) (by kernel_rfl) rfl rfl rfl) ?_ <;> refine AL.sl 0 ?_ <;> refine AL.nil ?_) | refine AW.jt ?_ | refine AW.jf ?_ | refine AW.jj (fun hb => ?_) (fun hb => ?_) | refine AW.go ?_ | fail)
  all_goals refine AW.retc (.cell 0 rfl rfl (by kernel_rfl) .nil) (List.nil_sublist _) ⟨?_, rfl⟩
  all_goals (simp only [beq_iff_eq, beq_eq_false_iff_ne, ne_eq] at *)
  all_goals (unfold useOf; simp_all [Use.av, ofConst, resv])
theorem retB {v b : Bool} (h : v = b) : AEnd.ret (ofConst (Value.bool b)) = AEnd.ret (AV.bool v) := by rw [h]; rfl
theorem ref_letter (n : Int) : Tri Tryz.prog 38 [.int .u8 n] [] (D (.bool (letterB n)) []) := by
  refine Tri.enter 17 Tryz.func38 rfl rfl rfl rfl fun Fr w0 => ?_
  repeat' (first | refine AW.re 0 1 ?_ | (refine xS 1 3 ?_; (first | refine AL.es 4 ?_ | (refine AL.gx (fun hb => ?_) (fun hb => ?_) <;> refine AL.es 4 ?_)) <;> (first | refine AL.es 3 ?_ | (refine AL.gx (fun hb => ?_) (fun hb => ?_) <;> refine AL.es 3 ?_)) <;> (first | refine AL.es 5 ?_ | (refine AL.gx (fun hb => ?_) (fun hb => ?_) <;> refine AL.es 5 ?_)) <;> refine AL.nil ?_) | refine AW.jt ?_ | refine AW.jf ?_ | refine AW.jj (fun hb => ?_) (fun hb => ?_) | refine AW.go ?_ | fail)
  all_goals refine AW.retv rfl ⟨?_, rfl⟩
  all_goals simp_all [letterB, ofConst]
  all_goals omega
theorem ref_digit (n : Int) : Tri Tryz.prog 40 [.int .u8 n] [] (D (.bool (digitB n)) []) := by
  refine Tri.enter 9 Tryz.func40 rfl rfl rfl rfl fun Fr w0 => ?_
  repeat' (first | refine AW.re 0 1 ?_ | (refine xS 1 3 ?_; (first | refine AL.es 4 ?_ | (refine AL.gx (fun hb => ?_) (fun hb => ?_) <;> refine AL.es 4 ?_)) <;> refine AL.nil ?_) | refine AW.jt ?_ | refine AW.jf ?_ | refine AW.jj (fun hb => ?_) (fun hb => ?_) | refine AW.go ?_ | fail)
  all_goals refine AW.retv rfl ⟨?_, rfl⟩
  all_goals simp_all [digitB, ofConst]
  all_goals omega
theorem ref_Word (s : ByteArray) : Tri Tryz.prog 39 [.str s] [] (D (.bool (wordB s)) []) := by
  refine Tri.enter 16 Tryz.func39 rfl rfl rfl rfl fun Fr w0 => ?_
  repeat' (first | refine AW.re 0 1 ?_ | refine AW.re 1 1 ?_ | refine AW.re 2 2 ?_ | refine AW.re 3 2 ?_ | refine AW.re 4 2 ?_ | refine AW.re 5 2 ?_ | refine AW.re 6 2 ?_ | refine AW.re 7 2 ?_ | refine AW.re 8 2 ?_ | refine AW.re 9 2 ?_ | refine AW.re 10 2 ?_ | refine AW.re 11 2 ?_ | refine AW.re 12 2 ?_ | refine AW.re 13 1 ?_ | refine AW.re 14 1 ?_ | refine AW.jt ?_ | refine AW.jf ?_ | refine AW.jj (fun hb => ?_) (fun hb => ?_) | refine AW.go ?_ | fail)
  all_goals refine AW.retv rfl ⟨?_, rfl⟩
  all_goals simp only [toList_beq, dT, dF] at *
  all_goals simp_all [wordB, ofConst]
theorem ref_Name (s : ByteArray) (hs : strOk s) : Tri Tryz.prog 16 [.str s] [] (D (.bool (nameB s)) []) := by
  unfold strOk at hs
  refine Tri.enter 40 Tryz.func16 rfl rfl rfl rfl fun Fr w0 => ?_
  repeat' (first | refine AW.re 0 1 ?_ | refine AW.jt ?_ | refine AW.jf ?_ | refine AW.jj (fun hb => ?_) (fun hb => ?_) | refine AW.go ?_ | fail)
  refine AW.cut (fun af ah => ∃ v : Bool, af = [(0, .str s), (21, .bool v)] ∧ ah = [] ∧ v = !(decide (0 < s.size) && decide (s.size ≤ 12) && letterB (byteAt s 0) && !wordB s)) ?_ ?_
  · repeat' (first | (refine xS 1 4 ?_; (first | refine AL.es 5 ?_ | (refine AL.gx (fun hb => ?_) (fun hb => ?_) <;> refine AL.es 5 ?_)) <;> (first | refine AL.es 1 ?_ | (refine AL.gx (fun hb => ?_) (fun hb => ?_) <;> refine AL.es 1 ?_)) <;> (first | (refine AL.gd ?_; refine AL.d (AOp.str_at (by kernel_rfl) rfl rfl (by omega) (by simp only [dT, dF] at *; omega)) ?_) | refine AL.gs ?_ | refine AL.gu ?_) <;> (first | (refine AL.gd ?_; (first | refine AL.d (AOp.call rfl rfl (ref_letter _)) ?_ | refine AL.d (AOp.call rfl rfl (ref_Word _)) ?_)) | refine AL.gs ?_ | refine AL.gu ?_) <;> refine AL.es 3 ?_ <;> (first | refine AL.es 1 ?_ | (refine AL.gx (fun hb => ?_) (fun hb => ?_) <;> refine AL.es 1 ?_)) <;> (first | (refine AL.gd ?_; (first | refine AL.d (AOp.call rfl rfl (ref_letter _)) ?_ | refine AL.d (AOp.call rfl rfl (ref_Word _)) ?_)) | refine AL.gs ?_ | refine AL.gu ?_) <;> refine AL.es 1 ?_ <;> refine AL.nil ?_) | refine AW.jt ?_ | refine AW.jf ?_ | refine AW.jj (fun hb => ?_) (fun hb => ?_) | refine AW.go ?_ | fail)
    all_goals (refine AW.meet [0, 21] ⟨_, rfl, rfl, ?_⟩; simp only [dT, dF, Bool.not_eq_true', Bool.not_eq_false'] at *)
    · simp [show ¬ 0 < s.size by omega]
    · simp [show ¬ s.size ≤ 12 by omega]
    · have h : letterB (byteAt s 0) = false := hb
      simp [h]
    · have h : letterB (byteAt s 0) = true := hb
      simp [h, show 0 < s.size by omega, show s.size ≤ 12 by omega]
  rintro af ah ⟨v, rfl, rfl, hv⟩
  cases v with
  | true =>
    repeat' (first | refine AW.re 2 1 ?_ | refine AW.jt ?_ | refine AW.jf ?_ | refine AW.jj (fun hb => ?_) (fun hb => ?_) | refine AW.go ?_ | fail)
    refine AW.retv rfl ⟨retB ?_, rfl⟩
    rw [nameB]
    have hv' : (decide (0 < s.size) && decide (s.size ≤ 12) && letterB (byteAt s 0) && !wordB s) = false := by revert hv; generalize (decide (0 < s.size) && decide (s.size ≤ 12) && letterB (byteAt s 0) && !wordB s) = w; cases w <;> simp
    rw [hv']; rfl
  | false =>
    have hv' : (decide (0 < s.size) && decide (s.size ≤ 12) && letterB (byteAt s 0) && !wordB s) = true := by revert hv; generalize (decide (0 < s.size) && decide (s.size ≤ 12) && letterB (byteAt s 0) && !wordB s) = w; cases w <;> simp
    have hpos : 0 < s.size := by simp at hv'; omega
    repeat' (first | refine AW.re 3 1 ?_ | refine AW.jt ?_ | refine AW.jf ?_ | refine AW.jj (fun hb => ?_) (fun hb => ?_) | refine AW.go ?_ | fail)
    refine AW.prune [0, 3] (AW.loop (fun m af h => ∃ i : Nat, i ≤ s.size ∧ m = s.size - i ∧ af = [(0, .str s), (3, .int .i64 i)] ∧ h = [] ∧ ∀ j, j < i → (letterB (byteAt s j) || digitB (byteAt s j)) = true) (s.size - 1) ⟨1, hpos, rfl, rfl, rfl, ?_⟩ ?_)
    · intro j hj
      obtain rfl : j = 0 := by omega
      simp only [bA] at hv'
      simp [hv'.1.2]
    rintro m af h ⟨i, hi, rfl, rfl, rfl, hp⟩
    refine AW.seq ?_
    by_cases hlt : i < s.size
    · repeat' (first | refine AW.re 4 4 ?_ | (refine xS 6 2 ?_; refine AL.d (AOp.str_at (by kernel_rfl) rfl rfl (by omega) (by have h0 := of_decide_eq_true (by assumption); omega)) ?_ <;> (first | refine AL.d (AOp.call rfl rfl (ref_letter _)) ?_ | refine AL.d (AOp.call rfl rfl (ref_digit _)) ?_) <;> refine AL.es 2 ?_ <;> (first | refine AL.es 2 ?_ | (refine AL.gx (fun hb => ?_) (fun hb => ?_) <;> refine AL.es 2 ?_)) <;> (first | (refine AL.gd ?_; refine AL.d (AOp.str_at (by kernel_rfl) rfl rfl (by omega) (by have h0 := of_decide_eq_true (by assumption); omega)) ?_) | refine AL.gs ?_ | refine AL.gu ?_) <;> (first | (refine AL.gd ?_; (first | refine AL.d (AOp.call rfl rfl (ref_letter _)) ?_ | refine AL.d (AOp.call rfl rfl (ref_digit _)) ?_)) | refine AL.gs ?_ | refine AL.gu ?_) <;> refine AL.es 2 ?_ <;> refine AL.nil ?_) | refine AW.re 7 1 ?_ | (refine xS 5 1 ?_; refine AL.d AOp.ad ?_; refine xN 1 ?_) | refine AW.jt ?_ | refine AW.jf ?_ | refine AW.jj (fun hb => ?_) (fun hb => ?_) | refine AW.go ?_ | fail)
      all_goals try (exfalso; simp only [dT, dF] at *; omega)
      all_goals simp only [Int.toNat_natCast] at *
      all_goals (cases h1 : letterB (byteAt s i) <;> cases h2 : digitB (byteAt s i))
      all_goals first
        | (exfalso; simp_all; done)
        | (refine AW.retv rfl ⟨retB ?_, rfl⟩; exact nameB_false hlt h1 h2)
        | (refine AW.again_keep (s.size - (i + 1)) [0, 3] (by omega) ⟨i + 1, hlt, rfl, rfl, rfl, fun j hj => ?_⟩; rcases Nat.lt_or_ge j i with h | h; exact hp j h; (obtain rfl : j = i := by omega); simp [h1, h2])
    · repeat' (first | refine AW.re 4 4 ?_ | refine AW.re 8 1 ?_ | refine AW.jt ?_ | refine AW.jf ?_ | refine AW.jj (fun hb => ?_) (fun hb => ?_) | refine AW.go ?_ | fail)
      all_goals try (exfalso; simp only [dT, dF] at *; omega)
      refine AW.retv rfl ⟨retB ?_, rfl⟩
      have : ((List.range s.size).all fun i => letterB (byteAt s i) || digitB (byteAt s i)) = true := by
        rw [List.all_eq_true]
        intro j hj
        exact hp j (by have := List.mem_range.1 hj; omega)
      rw [nameB, hv', this]; rfl
def inr (n x : Int) : Bool := decide (0 ≤ x) && decide (x < n)
def inB (n : Int) (l : List Int) : Bool := l.all (inr n)
theorem ref_in (n : Int) (l : List Int) (hl : l.length ≤ 4611686018427387904) : Tri Tryz.prog 17 [.int .i64 n, ints l] [] (D (.bool (inB n l)) []) := by
  refine Tri.enter 25 Tryz.func17 rfl rfl rfl rfl fun Fr w0 => ?_
  repeat' (first | refine AW.re 0 1 ?_ | refine AW.re 1 1 ?_ | refine AW.jt ?_ | refine AW.jf ?_ | refine AW.jj (fun hb => ?_) (fun hb => ?_) | refine AW.go ?_ | fail)
  refine AW.prune [0, 1, 5] (AW.loop (fun m af h => ∃ i : Nat, i ≤ l.length ∧ m = l.length - i ∧ af = [(0, .int .i64 n), (1, ints l), (5, .int .i64 i)] ∧ h = [] ∧ inB n l = inB n (l.drop i)) l.length ⟨0, Nat.zero_le _, rfl, rfl, rfl, rfl⟩ ?_)
  rintro m af h ⟨i, hi, rfl, rfl, rfl, he⟩
  refine AW.seq ?_
  by_cases hlt : i < l.length
  · obtain ⟨x, hx⟩ := get_lt hlt
    have hx' : (l.map iav)[((i : Nat) : Int).toNat]? = some (iav x) := map_get hx
    replace he : inB n l = (inr n x && inB n (l.drop (i + 1))) := by rw [he, drop_cons hx]; rfl
    repeat' (first | refine AW.re 2 4 ?_ | (refine xS 4 2 ?_; refine AL.d (iX hx') ?_; refine AL.es 3 ?_; (first | refine AL.es 2 ?_ | (refine AL.gx (fun hb => ?_) (fun hb => ?_) <;> refine AL.es 2 ?_)) <;> (first | (refine AL.gd ?_; refine AL.d (iX hx') ?_) | refine AL.gs ?_ | refine AL.gu ?_) <;> refine AL.es 4 ?_ <;> refine AL.nil ?_) | refine AW.re 5 1 ?_ | (refine xS 3 1 ?_; refine AL.d AOp.ad ?_; refine xN 1 ?_) | refine AW.jt ?_ | refine AW.jf ?_ | refine AW.jj (fun hb => ?_) (fun hb => ?_) | refine AW.go ?_ | fail)
    all_goals simp only [dT, dF, lM] at *
    all_goals first
      | (exfalso; omega)
      | (refine AW.retv rfl ⟨retB ?_, rfl⟩; rw [he, inr]; simp; intros; omega)
      | (refine AW.again_keep (l.length - (i + 1)) [0, 1, 5] (by omega) ⟨i + 1, hlt, rfl, rfl, rfl, ?_⟩; rw [he, inr, decide_eq_true (show 0 ≤ x by omega), decide_eq_true (show x < n by omega)]; rfl)
  · rw [List.drop_eq_nil_of_le (by omega)] at he
    repeat' (first | refine AW.re 2 4 ?_ | refine AW.re 6 1 ?_ | refine AW.jt ?_ | refine AW.jf ?_ | refine AW.jj (fun hb => ?_) (fun hb => ?_) | refine AW.go ?_ | fail)
    all_goals first
      | (exfalso; simp only [dT, dF, lM] at *; omega)
      | (refine AW.retv rfl ⟨?_, rfl⟩; rw [he]; rfl)
def findJ (n : ByteArray) : List GSym → Nat → Int
  | [], _ => -1
  | a :: l, i => if a.Name = n then i else findJ n l (i + 1)
theorem ref_find (l : List GSym) (n : ByteArray) (hl : l.length ≤ 4611686018427387904) : Tri Tryz.prog 18 [.sl (l.map GSym.av), .str n] [] (D (.int .i64 (findJ n l 0)) []) := by
  refine Tri.enter 20 Tryz.func18 rfl rfl rfl rfl fun Fr w0 => ?_
  repeat' (first | refine AW.re 0 1 ?_ | refine AW.re 1 1 ?_ | refine AW.jt ?_ | refine AW.jf ?_ | refine AW.jj (fun hb => ?_) (fun hb => ?_) | refine AW.go ?_ | fail)
  refine AW.prune [0, 1, 5] (AW.loop (fun m af h => ∃ i : Nat, i ≤ l.length ∧ m = l.length - i ∧ af = [(0, .sl (l.map GSym.av)), (1, .str n), (5, .int .i64 i)] ∧ h = [] ∧ findJ n l 0 = findJ n (l.drop i) i) l.length ⟨0, Nat.zero_le _, rfl, rfl, rfl, rfl⟩ ?_)
  rintro m af h ⟨i, hi, rfl, rfl, rfl, he⟩
  refine AW.seq ?_
  by_cases hlt : i < l.length
  · obtain ⟨x, hx⟩ := get_lt hlt
    have hx' : (l.map GSym.av)[((i : Nat) : Int).toNat]? = some x.av := map_get hx
    rw [drop_cons hx, findJ] at he
    repeat' (first | refine AW.re 2 4 ?_ | (refine xS 4 2 ?_; refine AL.d (iX hx') ?_; refine xN 4 ?_) | refine AW.re 5 2 ?_ | (refine xS 3 1 ?_; refine AL.d AOp.ad ?_; refine xN 1 ?_) | refine AW.jt ?_ | refine AW.jf ?_ | refine AW.jj (fun hb => ?_) (fun hb => ?_) | refine AW.go ?_ | fail)
    all_goals (try simp only [toList_beq] at *)
    all_goals first
      | (exfalso; simp only [dT, dF, lM] at *; omega)
      | (refine AW.retv rfl ⟨?_, rfl⟩; rw [he]; simp_all; done)
      | (refine AW.again_keep (l.length - (i + 1)) [0, 1, 5] (by omega) ⟨i + 1, hlt, rfl, rfl, rfl, ?_⟩; rw [he]; simp_all; done)
  · rw [List.drop_eq_nil_of_le (by omega)] at he
    repeat' (first | refine AW.re 2 4 ?_ | refine AW.re 6 1 ?_ | refine AW.jt ?_ | refine AW.jf ?_ | refine AW.jj (fun hb => ?_) (fun hb => ?_) | refine AW.go ?_ | fail)
    all_goals first
      | (exfalso; simp only [dT, dF, lM] at *; omega)
      | (refine AW.retv rfl ⟨?_, rfl⟩; rw [he]; rfl)
def hasB (s : ByteArray) (c : Int) : Bool := (List.range s.size).any fun i => decide (byteAt s i = c)
theorem ref_has (s : ByteArray) (c : Int) (hs : strOk s) : Tri Tryz.prog 107 [.str s, .int .u8 c] [] (D (.bool (hasB s c)) []) := by
  unfold strOk at hs
  refine Tri.enter 17 Tryz.func107 rfl rfl rfl rfl fun Fr w0 => ?_
  repeat' (first | refine AW.re 0 1 ?_ | refine AW.re 1 1 ?_ | refine AW.jt ?_ | refine AW.jf ?_ | refine AW.jj (fun hb => ?_) (fun hb => ?_) | refine AW.go ?_ | fail)
  refine AW.prune [0, 1, 5] (AW.loop (fun m af h => ∃ i : Nat, i ≤ s.size ∧ m = s.size - i ∧ af = [(0, .str s), (1, .int .u8 c), (5, .int .i64 i)] ∧ h = [] ∧ ∀ j, j < i → byteAt s j ≠ c) s.size ⟨0, Nat.zero_le _, rfl, rfl, rfl, by omega⟩ ?_)
  rintro m af h ⟨i, hi, rfl, rfl, rfl, he⟩
  refine AW.seq ?_
  by_cases hlt : i < s.size
  · repeat' (first | refine AW.re 2 4 ?_ | (refine xS 4 2 ?_; refine AL.d (AOp.str_at (by kernel_rfl) rfl rfl (by omega) (by have h0 := of_decide_eq_true (by assumption); omega)) ?_ <;> refine AL.es 2 ?_ <;> refine AL.nil ?_) | refine AW.re 5 1 ?_ | (refine xS 3 1 ?_; refine AL.d AOp.ad ?_; refine xN 1 ?_) | refine AW.jt ?_ | refine AW.jf ?_ | refine AW.jj (fun hb => ?_) (fun hb => ?_) | refine AW.go ?_ | fail)
    all_goals first
      | (exfalso; simp only [dT, dF] at *; omega)
      | (refine AW.retv rfl ⟨retB ?_, rfl⟩; rw [hasB, List.any_eq_true]; exact ⟨i, List.mem_range.2 hlt, by simpa using hb⟩)
      | (refine AW.again_keep (s.size - (i + 1)) [0, 1, 5] (by omega) ⟨i + 1, hlt, rfl, rfl, rfl, fun j hj => ?_⟩; rcases Nat.lt_or_ge j i with h | h; exact he j h; (obtain rfl : j = i := by omega); simpa using hb)
  · repeat' (first | refine AW.re 2 4 ?_ | refine AW.re 6 1 ?_ | refine AW.jt ?_ | refine AW.jf ?_ | refine AW.jj (fun hb => ?_) (fun hb => ?_) | refine AW.go ?_ | fail)
    all_goals first
      | (exfalso; simp only [dT, dF] at *; omega)
      | (refine AW.retv rfl ⟨?_, rfl⟩; refine retB ?_; rw [hasB, List.any_eq_false]; intro j hj; have := he j (by have := List.mem_range.1 hj; omega); simpa using this)
def arOf (l : List GSym) (n : ByteArray) : Option Int := (l.find? fun a => decide (a.Name = n)).map (·.Arity)
theorem findJ_spec (n : ByteArray) : ∀ (l : List GSym) (i : Nat), (findJ n l i = -1 ∧ arOf l n = none) ∨ ∃ (k : Nat) (a : GSym), findJ n l i = ((i + k : Nat) : Int) ∧ l[k]? = some a ∧ a.Name = n ∧ arOf l n = some a.Arity
  | [], i => .inl ⟨rfl, rfl⟩
  | a :: l, i => by
    by_cases h : a.Name = n
    · refine .inr ⟨0, a, ?_, rfl, h, ?_⟩
      · rw [findJ, if_pos h]; rfl
      · simp [arOf, h]
    · have e1 : findJ n (a :: l) i = findJ n l (i + 1) := by rw [findJ, if_neg h]
      have e2 : arOf (a :: l) n = arOf l n := by simp [arOf, h]
      rw [e1, e2]
      rcases findJ_spec n l (i + 1) with h | ⟨k, b, h1, h2, h3, h4⟩
      · exact .inl h
      · exact .inr ⟨k + 1, b, by rw [h1]; omega, h2, h3, h4⟩
abbrev Ar := ByteArray → Option Int
def litB (A : Ar) (regs : Int) (l : GLit) : Bool :=
  inB regs l.At && (if l.Kind = 1 ∨ l.Kind = 2 then decide (l.Name = ⟨#[]⟩) && decide (l.At.length = 2) else decide (l.Kind = 0) && nameB l.Name && decide (l.At.length ≤ 12) && (match A l.Name with | none => true | some n => decide (n = l.At.length)))
theorem ref_literal (c : GCode) (hc : c.Ok) (l : GLit) (hl : l.Ok) : Tri Tryz.prog 87 [c.av, l.av] [] (D (.bool (litB (arOf c.Arrays) c.Regs l)) []) := by
  obtain ⟨_, _, hca, hcb⟩ := hc
  obtain ⟨_, hl1, hl2, _⟩ := hl
  have hal : c.Arrays.length ≤ 4611686018427387904 := by have := hca.1; omega
  have hIn := ref_in c.Regs l.At (by omega)
  have hFind := ref_find c.Arrays l.Name hal
  have hName := ref_Name l.Name hl1
  have hlit : litB (arOf c.Arrays) c.Regs l = (inB c.Regs l.At && (if l.Kind = 1 ∨ l.Kind = 2 then decide (l.Name = ⟨#[]⟩) && decide (l.At.length = 2) else decide (l.Kind = 0) && nameB l.Name && decide (l.At.length ≤ 12) && (match arOf c.Arrays l.Name with | none => true | some n => decide (n = l.At.length)))) := rfl
  rcases findJ_spec l.Name c.Arrays 0 with ⟨e1, e2⟩ | ⟨k, a, e1, ha, -, e2⟩
  · rw [e1] at hFind
    rw [e2] at hlit
    generalize litB (arOf c.Arrays) c.Regs l = v at hlit ⊢
    refine Tri.enter 58 Tryz.func87 rfl rfl rfl rfl fun Fr w0 => ?_
    repeat' (first | (refine AW.r 0 ?_; (first | refine AL.d (AOp.box_ro rfl rfl) ?_ | refine AL.d (AOp.box_ro rfl rfl) ?_) <;> (first | refine AL.d (AOp.box_ro rfl rfl) ?_ | refine AL.d (AOp.box_ro rfl rfl) ?_) <;> refine AL.es 1 ?_ <;> refine AL.nil ?_) | (refine xS 1 4 ?_; (first | refine AL.d (AOp.call rfl rfl hIn) ?_ | refine AL.d (AOp.call rfl rfl hFind) ?_ | refine AL.d (AOp.call rfl rfl hName) ?_) <;> refine AL.es 1 ?_ <;> refine AL.nil ?_) | refine AW.re 2 1 ?_ | refine AW.re 3 2 ?_ | refine AW.re 4 2 ?_ | (refine xS 5 4 ?_; (first | refine AL.d (AOp.call rfl rfl hIn) ?_ | refine AL.d (AOp.call rfl rfl hFind) ?_ | refine AL.d (AOp.call rfl rfl hName) ?_) <;> refine AL.es 1 ?_ <;> refine AL.nil ?_) | (refine AW.dq 6 ?_; refine AQ.es 2 ?_; (first | refine AQ.p rfl (AOp.call rfl rfl hIn) ?_ | refine AQ.p rfl (AOp.call rfl rfl hFind) ?_ | refine AQ.p rfl (AOp.call rfl rfl hName) ?_) <;> refine AQ.es 1 ?_ <;> (first | refine AQ.es 6 ?_ | (refine AQ.x (fun hb => ?_) (fun hb => ?_) <;> refine AQ.es 6 ?_)) <;> (first | refine AQ.es 3 ?_ | (refine AQ.x (fun hb => ?_) (fun hb => ?_) <;> refine AQ.es 3 ?_)) <;> (first | refine AQ.es 3 ?_ | (refine AQ.x (fun hb => ?_) (fun hb => ?_) <;> refine AQ.es 3 ?_)) <;> (first | fail | refine AQ.k ?_) <;> refine AQ.es 9 ?_ <;> refine AQ.nil ?_) | refine AW.re 7 2 ?_ | refine AW.re 8 2 ?_ | (refine xS 9 4 ?_; (first | refine AL.es 6 ?_ | (refine AL.gx (fun hb => ?_) (fun hb => ?_) <;> refine AL.es 6 ?_)) <;> refine AL.nil ?_) | refine AW.re 10 1 ?_ | refine AW.jt ?_ | refine AW.jf ?_ | refine AW.jj (fun hb => ?_) (fun hb => ?_) | refine AW.go ?_ | fail)
    all_goals refine AW.retv rfl ⟨?_, rfl⟩
    all_goals (clear hIn hFind hName; subst hlit; show AEnd.ret (.bool _) = AEnd.ret (.bool _); congr 2; simp only [toList_beq, beq_iff_eq, beq_eq_false_iff_ne, ne_eq, dT, dF, Bool.not_eq_true', Bool.not_eq_false', lM] at *)
    all_goals simp_all
    all_goals first | omega | (rw [Bool.eq_iff_iff]; simp; try omega)
  · rw [e1] at hFind
    rw [e2] at hlit
    simp only [Nat.zero_add] at hFind
    have hx' : (c.Arrays.map GSym.av)[((k : Nat) : Int).toNat]? = some a.av := map_get ha
    generalize litB (arOf c.Arrays) c.Regs l = v at hlit ⊢
    refine Tri.enter 58 Tryz.func87 rfl rfl rfl rfl fun Fr w0 => ?_
    repeat' (first | (refine AW.r 0 ?_; (first | refine AL.d (AOp.box_ro rfl rfl) ?_ | refine AL.d (AOp.box_ro rfl rfl) ?_) <;> (first | refine AL.d (AOp.box_ro rfl rfl) ?_ | refine AL.d (AOp.box_ro rfl rfl) ?_) <;> refine AL.es 1 ?_ <;> refine AL.nil ?_) | (refine xS 1 4 ?_; (first | refine AL.d (AOp.call rfl rfl hIn) ?_ | refine AL.d (AOp.call rfl rfl hFind) ?_ | refine AL.d (AOp.call rfl rfl hName) ?_) <;> refine AL.es 1 ?_ <;> refine AL.nil ?_) | refine AW.re 2 1 ?_ | refine AW.re 3 2 ?_ | refine AW.re 4 2 ?_ | (refine xS 5 4 ?_; (first | refine AL.d (AOp.call rfl rfl hIn) ?_ | refine AL.d (AOp.call rfl rfl hFind) ?_ | refine AL.d (AOp.call rfl rfl hName) ?_) <;> refine AL.es 1 ?_ <;> refine AL.nil ?_) | (refine AW.dq 6 ?_; refine AQ.es 2 ?_; (first | refine AQ.p rfl (AOp.call rfl rfl hIn) ?_ | refine AQ.p rfl (AOp.call rfl rfl hFind) ?_ | refine AQ.p rfl (AOp.call rfl rfl hName) ?_) <;> refine AQ.es 1 ?_ <;> (first | refine AQ.es 6 ?_ | (refine AQ.x (fun hb => ?_) (fun hb => ?_) <;> refine AQ.es 6 ?_)) <;> (first | refine AQ.es 3 ?_ | (refine AQ.x (fun hb => ?_) (fun hb => ?_) <;> refine AQ.es 3 ?_)) <;> (first | refine AQ.es 3 ?_ | (refine AQ.x (fun hb => ?_) (fun hb => ?_) <;> refine AQ.es 3 ?_)) <;> (first | refine AQ.gp rfl (iX hx') ?_ | refine AQ.k ?_) <;> refine AQ.es 9 ?_ <;> refine AQ.nil ?_) | refine AW.re 7 2 ?_ | refine AW.re 8 2 ?_ | (refine xS 9 4 ?_; (first | refine AL.es 6 ?_ | (refine AL.gx (fun hb => ?_) (fun hb => ?_) <;> refine AL.es 6 ?_)) <;> refine AL.nil ?_) | refine AW.re 10 1 ?_ | refine AW.jt ?_ | refine AW.jf ?_ | refine AW.jj (fun hb => ?_) (fun hb => ?_) | refine AW.go ?_ | fail)
    all_goals refine AW.retv rfl ⟨?_, rfl⟩
    all_goals (clear hIn hFind hName; subst hlit; show AEnd.ret (.bool _) = AEnd.ret (.bool _); congr 2; simp only [toList_beq, beq_iff_eq, beq_eq_false_iff_ne, ne_eq, dT, dF, Bool.not_eq_true', Bool.not_eq_false', lM] at *)
    all_goals simp_all
    all_goals first | omega | (rw [Bool.eq_iff_iff]; simp; try omega)
def plainB (s : GStmt) (u : ByteArray) : Bool :=
  let e := (!decide (s.Lit.Kind = 0) || s.Lit.Neg || !decide (s.Lit.Name = ⟨#[]⟩) || !decide (s.Lit.At.length = 0))
  (decide (s.F = 0) || hasB u 70) && (decide (s.G = 0) || hasB u 71) && (decide (s.R = 0) || hasB u 82) && (decide (s.N = 0) || hasB u 78) && (decide (s.Name = ⟨#[]⟩) || hasB u 110) && (decide (s.From = ⟨#[]⟩) || hasB u 102) && (!e || hasB u 108) && (decide (s.Regs.length = 0) || hasB u 114) && (decide (s.Body.length = 0) || hasB u 98) && (decide (s.Else.length = 0) || hasB u 101)
theorem ref_plain (s : GStmt) (u : ByteArray) (hu : strOk u) : Tri Tryz.prog 86 [s.st, .str u] [] (D (.bool (plainB s u)) []) := by
  have hz : ∀ e : Bool, e = (!decide (s.Lit.Kind = 0) || s.Lit.Neg || !decide (s.Lit.Name = ⟨#[]⟩) || !decide (s.Lit.At.length = 0)) → plainB s u = ((decide (s.F = 0) || hasB u 70) && (decide (s.G = 0) || hasB u 71) && (decide (s.R = 0) || hasB u 82) && (decide (s.N = 0) || hasB u 78) && (decide (s.Name = ⟨#[]⟩) || hasB u 110) && (decide (s.From = ⟨#[]⟩) || hasB u 102) && (!e || hasB u 108) && (decide (s.Regs.length = 0) || hasB u 114) && (decide (s.Body.length = 0) || hasB u 98) && (decide (s.Else.length = 0) || hasB u 101)) := by rintro e rfl; rfl
  have hh := fun n => ref_has u n hu
  have l1 : (s.Lit.At.map iav).length = s.Lit.At.length := lM _
  have l2 : (s.Regs.map iav).length = s.Regs.length := lM _
  have l3 : (s.Body.map GStmt.av).length = s.Body.length := lM _
  have l4 : (s.Else.map GStmt.av).length = s.Else.length := lM _
  refine Tri.enter 118 Tryz.func86 rfl rfl rfl rfl fun Fr w0 => ?_
  repeat' (first | (refine AW.r 0 ?_; (first | refine AL.d (AOp.box_ro rfl rfl) ?_ | refine AL.d (AOp.box_ro rfl rfl) ?_) <;> refine AL.es 1 ?_ <;> refine AL.nil ?_) | refine AW.jt ?_ | refine AW.jf ?_ | refine AW.jj (fun hb => ?_) (fun hb => ?_) | refine AW.go ?_ | fail)
  refine AW.cut (fun af ah => ∃ e : Bool, af = [(1, .str u), (2, .at s.st), (5, .bool e)] ∧ ah = [] ∧ e = (!decide (s.Lit.Kind = 0) || s.Lit.Neg || !decide (s.Lit.Name = ⟨#[]⟩) || !decide (s.Lit.At.length = 0))) ?_ ?_
  · repeat' (first | (refine xS 1 5 ?_; (first | refine AL.es 5 ?_ | (refine AL.gx (fun hb => ?_) (fun hb => ?_) <;> refine AL.es 5 ?_)) <;> (first | refine AL.es 6 ?_ | (refine AL.gx (fun hb => ?_) (fun hb => ?_) <;> refine AL.es 6 ?_)) <;> (first | refine AL.es 7 ?_ | (refine AL.gx (fun hb => ?_) (fun hb => ?_) <;> refine AL.es 7 ?_)) <;> refine AL.nil ?_) | refine AW.jt ?_ | refine AW.jf ?_ | refine AW.jj (fun hb => ?_) (fun hb => ?_) | refine AW.go ?_ | fail)
    all_goals (refine AW.meet [1, 2, 5] ⟨_, rfl, rfl, ?_⟩; (try simp only [toList_beq] at *); simp_all [ofConst])
    all_goals (try (rw [Bool.eq_iff_iff]; simp; first | omega | exact List.length_pos_iff))
  rintro af ah ⟨e, rfl, rfl, he⟩
  have hz := hz e he
  clear he
  refine AW.seq ?_
  refine AW.region_at 2 ?_
  refine AL.cut 8 (fun af ah => ∃ v : Bool, af = [(35, .bool v), (1, .str u), (2, .at s.st), (5, .bool e)] ∧ ah = [] ∧ v = ((decide (s.F = 0) || hasB u 70))) ?_ ?_
  · (first | refine AL.d AOp.fa ?_ | refine AL.d (AOp.fr 1) ?_) <;> (refine AL.d AOp.la ?_) <;> (refine AL.e ?_) <;> (refine AL.e ?_) <;> (first | (refine AL.gd ?_; refine AL.e ?_) | refine AL.gs ?_ | refine AL.gu ?_ | (refine AL.gx (fun hb => ?_) (fun hb => ?_) <;> first | (refine AL.gd ?_; refine AL.e ?_) | refine AL.gs ?_)) <;> (first | (refine AL.gd ?_; refine AL.d (AOp.call rfl rfl (hh _)) ?_) | refine AL.gs ?_ | refine AL.gu ?_) <;> (refine AL.e ?_) <;> (refine AL.e ?_) <;> (refine AL.nil ?_)
    all_goals (refine AW.meet [35, 1, 2, 5] ⟨_, rfl, rfl, ?_⟩; (try simp only [toList_beq] at *); simp_all [ofConst])
    all_goals (try (rw [Bool.eq_iff_iff]; simp))
  rintro af ah ⟨v1, rfl, rfl, h1⟩
  refine AL.cut 9 (fun af ah => ∃ v : Bool, af = [(44, .bool v), (1, .str u), (2, .at s.st), (5, .bool e)] ∧ ah = [] ∧ v = (v1 && (decide (s.G = 0) || hasB u 71))) ?_ ?_
  · (first | (refine AL.gd ?_; (first | refine AL.d AOp.fa ?_ | refine AL.d (AOp.fr 2) ?_)) | refine AL.gs ?_ | refine AL.gu ?_ | (refine AL.gx (fun hb => ?_) (fun hb => ?_) <;> first | (refine AL.gd ?_; (first | refine AL.d AOp.fa ?_ | refine AL.d (AOp.fr 2) ?_)) | refine AL.gs ?_)) <;> (first | (refine AL.gd ?_; refine AL.d AOp.la ?_) | refine AL.gs ?_ | refine AL.gu ?_) <;> (first | (refine AL.gd ?_; refine AL.e ?_) | refine AL.gs ?_ | refine AL.gu ?_) <;> (first | (refine AL.gd ?_; refine AL.e ?_) | refine AL.gs ?_ | refine AL.gu ?_) <;> (first | (refine AL.gd ?_; refine AL.e ?_) | refine AL.gs ?_ | refine AL.gu ?_ | (refine AL.gx (fun hb => ?_) (fun hb => ?_) <;> first | (refine AL.gd ?_; refine AL.e ?_) | refine AL.gs ?_)) <;> (first | (refine AL.gd ?_; refine AL.d (AOp.call rfl rfl (hh _)) ?_) | refine AL.gs ?_ | refine AL.gu ?_) <;> (first | (refine AL.gd ?_; refine AL.e ?_) | refine AL.gs ?_ | refine AL.gu ?_) <;> (refine AL.e ?_) <;> (refine AL.e ?_) <;> (refine AL.nil ?_)
    all_goals (refine AW.meet [44, 1, 2, 5] ⟨_, rfl, rfl, ?_⟩; (try simp only [toList_beq] at *); simp_all [ofConst])
    all_goals (try (rw [Bool.eq_iff_iff]; simp))
  rintro af ah ⟨v2, rfl, rfl, h2⟩
  refine AL.cut 9 (fun af ah => ∃ v : Bool, af = [(53, .bool v), (1, .str u), (2, .at s.st), (5, .bool e)] ∧ ah = [] ∧ v = (v2 && (decide (s.R = 0) || hasB u 82))) ?_ ?_
  · (first | (refine AL.gd ?_; (first | refine AL.d AOp.fa ?_ | refine AL.d (AOp.fr 3) ?_)) | refine AL.gs ?_ | refine AL.gu ?_ | (refine AL.gx (fun hb => ?_) (fun hb => ?_) <;> first | (refine AL.gd ?_; (first | refine AL.d AOp.fa ?_ | refine AL.d (AOp.fr 3) ?_)) | refine AL.gs ?_)) <;> (first | (refine AL.gd ?_; refine AL.d AOp.la ?_) | refine AL.gs ?_ | refine AL.gu ?_) <;> (first | (refine AL.gd ?_; refine AL.e ?_) | refine AL.gs ?_ | refine AL.gu ?_) <;> (first | (refine AL.gd ?_; refine AL.e ?_) | refine AL.gs ?_ | refine AL.gu ?_) <;> (first | (refine AL.gd ?_; refine AL.e ?_) | refine AL.gs ?_ | refine AL.gu ?_ | (refine AL.gx (fun hb => ?_) (fun hb => ?_) <;> first | (refine AL.gd ?_; refine AL.e ?_) | refine AL.gs ?_)) <;> (first | (refine AL.gd ?_; refine AL.d (AOp.call rfl rfl (hh _)) ?_) | refine AL.gs ?_ | refine AL.gu ?_) <;> (first | (refine AL.gd ?_; refine AL.e ?_) | refine AL.gs ?_ | refine AL.gu ?_) <;> (refine AL.e ?_) <;> (refine AL.e ?_) <;> (refine AL.nil ?_)
    all_goals (refine AW.meet [53, 1, 2, 5] ⟨_, rfl, rfl, ?_⟩; (try simp only [toList_beq] at *); simp_all [ofConst])
    all_goals (try (rw [Bool.eq_iff_iff]; simp))
  rintro af ah ⟨v3, rfl, rfl, h3⟩
  refine AL.cut 9 (fun af ah => ∃ v : Bool, af = [(62, .bool v), (1, .str u), (2, .at s.st), (5, .bool e)] ∧ ah = [] ∧ v = (v3 && (decide (s.N = 0) || hasB u 78))) ?_ ?_
  · (first | (refine AL.gd ?_; (first | refine AL.d AOp.fa ?_ | refine AL.d (AOp.fr 4) ?_)) | refine AL.gs ?_ | refine AL.gu ?_ | (refine AL.gx (fun hb => ?_) (fun hb => ?_) <;> first | (refine AL.gd ?_; (first | refine AL.d AOp.fa ?_ | refine AL.d (AOp.fr 4) ?_)) | refine AL.gs ?_)) <;> (first | (refine AL.gd ?_; refine AL.d AOp.la ?_) | refine AL.gs ?_ | refine AL.gu ?_) <;> (first | (refine AL.gd ?_; refine AL.e ?_) | refine AL.gs ?_ | refine AL.gu ?_) <;> (first | (refine AL.gd ?_; refine AL.e ?_) | refine AL.gs ?_ | refine AL.gu ?_) <;> (first | (refine AL.gd ?_; refine AL.e ?_) | refine AL.gs ?_ | refine AL.gu ?_ | (refine AL.gx (fun hb => ?_) (fun hb => ?_) <;> first | (refine AL.gd ?_; refine AL.e ?_) | refine AL.gs ?_)) <;> (first | (refine AL.gd ?_; refine AL.d (AOp.call rfl rfl (hh _)) ?_) | refine AL.gs ?_ | refine AL.gu ?_) <;> (first | (refine AL.gd ?_; refine AL.e ?_) | refine AL.gs ?_ | refine AL.gu ?_) <;> (refine AL.e ?_) <;> (refine AL.e ?_) <;> (refine AL.nil ?_)
    all_goals (refine AW.meet [62, 1, 2, 5] ⟨_, rfl, rfl, ?_⟩; (try simp only [toList_beq] at *); simp_all [ofConst])
    all_goals (try (rw [Bool.eq_iff_iff]; simp))
  rintro af ah ⟨v4, rfl, rfl, h4⟩
  refine AL.cut 9 (fun af ah => ∃ v : Bool, af = [(71, .bool v), (1, .str u), (2, .at s.st), (5, .bool e)] ∧ ah = [] ∧ v = (v4 && (decide (s.Name = ⟨#[]⟩) || hasB u 110))) ?_ ?_
  · (first | (refine AL.gd ?_; (first | refine AL.d AOp.fa ?_ | refine AL.d (AOp.fr 5) ?_)) | refine AL.gs ?_ | refine AL.gu ?_ | (refine AL.gx (fun hb => ?_) (fun hb => ?_) <;> first | (refine AL.gd ?_; (first | refine AL.d AOp.fa ?_ | refine AL.d (AOp.fr 5) ?_)) | refine AL.gs ?_)) <;> (first | (refine AL.gd ?_; refine AL.d AOp.la ?_) | refine AL.gs ?_ | refine AL.gu ?_) <;> (first | (refine AL.gd ?_; refine AL.e ?_) | refine AL.gs ?_ | refine AL.gu ?_) <;> (first | (refine AL.gd ?_; refine AL.e ?_) | refine AL.gs ?_ | refine AL.gu ?_) <;> (first | (refine AL.gd ?_; refine AL.e ?_) | refine AL.gs ?_ | refine AL.gu ?_ | (refine AL.gx (fun hb => ?_) (fun hb => ?_) <;> first | (refine AL.gd ?_; refine AL.e ?_) | refine AL.gs ?_)) <;> (first | (refine AL.gd ?_; refine AL.d (AOp.call rfl rfl (hh _)) ?_) | refine AL.gs ?_ | refine AL.gu ?_) <;> (first | (refine AL.gd ?_; refine AL.e ?_) | refine AL.gs ?_ | refine AL.gu ?_) <;> (refine AL.e ?_) <;> (refine AL.e ?_) <;> (refine AL.nil ?_)
    all_goals (refine AW.meet [71, 1, 2, 5] ⟨_, rfl, rfl, ?_⟩; (try simp only [toList_beq] at *); simp_all [ofConst])
    all_goals (try (rw [Bool.eq_iff_iff]; simp))
  rintro af ah ⟨v5, rfl, rfl, h5⟩
  refine AL.cut 9 (fun af ah => ∃ v : Bool, af = [(80, .bool v), (1, .str u), (2, .at s.st), (5, .bool e)] ∧ ah = [] ∧ v = (v5 && (decide (s.From = ⟨#[]⟩) || hasB u 102))) ?_ ?_
  · (first | (refine AL.gd ?_; (first | refine AL.d AOp.fa ?_ | refine AL.d (AOp.fr 6) ?_)) | refine AL.gs ?_ | refine AL.gu ?_ | (refine AL.gx (fun hb => ?_) (fun hb => ?_) <;> first | (refine AL.gd ?_; (first | refine AL.d AOp.fa ?_ | refine AL.d (AOp.fr 6) ?_)) | refine AL.gs ?_)) <;> (first | (refine AL.gd ?_; refine AL.d AOp.la ?_) | refine AL.gs ?_ | refine AL.gu ?_) <;> (first | (refine AL.gd ?_; refine AL.e ?_) | refine AL.gs ?_ | refine AL.gu ?_) <;> (first | (refine AL.gd ?_; refine AL.e ?_) | refine AL.gs ?_ | refine AL.gu ?_) <;> (first | (refine AL.gd ?_; refine AL.e ?_) | refine AL.gs ?_ | refine AL.gu ?_ | (refine AL.gx (fun hb => ?_) (fun hb => ?_) <;> first | (refine AL.gd ?_; refine AL.e ?_) | refine AL.gs ?_)) <;> (first | (refine AL.gd ?_; refine AL.d (AOp.call rfl rfl (hh _)) ?_) | refine AL.gs ?_ | refine AL.gu ?_) <;> (first | (refine AL.gd ?_; refine AL.e ?_) | refine AL.gs ?_ | refine AL.gu ?_) <;> (refine AL.e ?_) <;> (refine AL.e ?_) <;> (refine AL.nil ?_)
    all_goals (refine AW.meet [80, 1, 2, 5] ⟨_, rfl, rfl, ?_⟩; (try simp only [toList_beq] at *); simp_all [ofConst])
    all_goals (try (rw [Bool.eq_iff_iff]; simp))
  rintro af ah ⟨v6, rfl, rfl, h6⟩
  refine AL.cut 8 (fun af ah => ∃ v : Bool, af = [(88, .bool v), (1, .str u), (2, .at s.st), (5, .bool e)] ∧ ah = [] ∧ v = (v6 && (!e || hasB u 108))) ?_ ?_
  · (first | (refine AL.gd ?_; refine AL.e ?_) | refine AL.gs ?_ | refine AL.gu ?_ | (refine AL.gx (fun hb => ?_) (fun hb => ?_) <;> first | (refine AL.gd ?_; refine AL.e ?_) | refine AL.gs ?_)) <;> (first | (refine AL.gd ?_; refine AL.e ?_) | refine AL.gs ?_ | refine AL.gu ?_) <;> (first | (refine AL.gd ?_; refine AL.e ?_) | refine AL.gs ?_ | refine AL.gu ?_) <;> (first | (refine AL.gd ?_; refine AL.e ?_) | refine AL.gs ?_ | refine AL.gu ?_ | (refine AL.gx (fun hb => ?_) (fun hb => ?_) <;> first | (refine AL.gd ?_; refine AL.e ?_) | refine AL.gs ?_)) <;> (first | (refine AL.gd ?_; refine AL.d (AOp.call rfl rfl (hh _)) ?_) | refine AL.gs ?_ | refine AL.gu ?_) <;> (first | (refine AL.gd ?_; refine AL.e ?_) | refine AL.gs ?_ | refine AL.gu ?_) <;> (refine AL.e ?_) <;> (refine AL.e ?_) <;> (refine AL.nil ?_)
    all_goals (refine AW.meet [88, 1, 2, 5] ⟨_, rfl, rfl, ?_⟩; (try simp only [toList_beq] at *); simp_all [ofConst])
    all_goals (try (rw [Bool.eq_iff_iff]; simp))
  rintro af ah ⟨v7, rfl, rfl, h7⟩
  refine AL.cut 10 (fun af ah => ∃ v : Bool, af = [(98, .bool v), (1, .str u), (2, .at s.st), (5, .bool e)] ∧ ah = [] ∧ v = (v7 && (decide (s.Regs.length = 0) || hasB u 114))) ?_ ?_
  · (first | (refine AL.gd ?_; (first | refine AL.d AOp.fa ?_ | refine AL.d (AOp.fr 11) ?_)) | refine AL.gs ?_ | refine AL.gu ?_ | (refine AL.gx (fun hb => ?_) (fun hb => ?_) <;> first | (refine AL.gd ?_; (first | refine AL.d AOp.fa ?_ | refine AL.d (AOp.fr 11) ?_)) | refine AL.gs ?_)) <;> (first | (refine AL.gd ?_; refine AL.d AOp.la ?_) | refine AL.gs ?_ | refine AL.gu ?_) <;> (first | (refine AL.gd ?_; refine AL.d AOp.ln ?_) | refine AL.gs ?_ | refine AL.gu ?_) <;> (first | (refine AL.gd ?_; refine AL.e ?_) | refine AL.gs ?_ | refine AL.gu ?_) <;> (first | (refine AL.gd ?_; refine AL.e ?_) | refine AL.gs ?_ | refine AL.gu ?_) <;> (first | (refine AL.gd ?_; refine AL.e ?_) | refine AL.gs ?_ | refine AL.gu ?_ | (refine AL.gx (fun hb => ?_) (fun hb => ?_) <;> first | (refine AL.gd ?_; refine AL.e ?_) | refine AL.gs ?_)) <;> (first | (refine AL.gd ?_; refine AL.d (AOp.call rfl rfl (hh _)) ?_) | refine AL.gs ?_ | refine AL.gu ?_) <;> (first | (refine AL.gd ?_; refine AL.e ?_) | refine AL.gs ?_ | refine AL.gu ?_) <;> (refine AL.e ?_) <;> (refine AL.e ?_) <;> (refine AL.nil ?_)
    all_goals (refine AW.meet [98, 1, 2, 5] ⟨_, rfl, rfl, ?_⟩; (try simp only [toList_beq] at *); simp_all [ofConst])
    all_goals (try (rw [Bool.eq_iff_iff]; simp))
  rintro af ah ⟨v8, rfl, rfl, h8⟩
  refine AL.cut 10 (fun af ah => ∃ v : Bool, af = [(108, .bool v), (1, .str u), (2, .at s.st), (5, .bool e)] ∧ ah = [] ∧ v = (v8 && (decide (s.Body.length = 0) || hasB u 98))) ?_ ?_
  · (first | (refine AL.gd ?_; (first | refine AL.d AOp.fa ?_ | refine AL.d (AOp.fr 12) ?_)) | refine AL.gs ?_ | refine AL.gu ?_ | (refine AL.gx (fun hb => ?_) (fun hb => ?_) <;> first | (refine AL.gd ?_; (first | refine AL.d AOp.fa ?_ | refine AL.d (AOp.fr 12) ?_)) | refine AL.gs ?_)) <;> (first | (refine AL.gd ?_; refine AL.d AOp.la ?_) | refine AL.gs ?_ | refine AL.gu ?_) <;> (first | (refine AL.gd ?_; refine AL.d AOp.ln ?_) | refine AL.gs ?_ | refine AL.gu ?_) <;> (first | (refine AL.gd ?_; refine AL.e ?_) | refine AL.gs ?_ | refine AL.gu ?_) <;> (first | (refine AL.gd ?_; refine AL.e ?_) | refine AL.gs ?_ | refine AL.gu ?_) <;> (first | (refine AL.gd ?_; refine AL.e ?_) | refine AL.gs ?_ | refine AL.gu ?_ | (refine AL.gx (fun hb => ?_) (fun hb => ?_) <;> first | (refine AL.gd ?_; refine AL.e ?_) | refine AL.gs ?_)) <;> (first | (refine AL.gd ?_; refine AL.d (AOp.call rfl rfl (hh _)) ?_) | refine AL.gs ?_ | refine AL.gu ?_) <;> (first | (refine AL.gd ?_; refine AL.e ?_) | refine AL.gs ?_ | refine AL.gu ?_) <;> (refine AL.e ?_) <;> (refine AL.e ?_) <;> (refine AL.nil ?_)
    all_goals (refine AW.meet [108, 1, 2, 5] ⟨_, rfl, rfl, ?_⟩; (try simp only [toList_beq] at *); simp_all [ofConst])
    all_goals (try (rw [Bool.eq_iff_iff]; simp))
  rintro af ah ⟨v9, rfl, rfl, h9⟩
  refine AL.cut 9 (fun af ah => ∃ v : Bool, af = [(117, .bool v), (1, .str u), (2, .at s.st), (5, .bool e)] ∧ ah = [] ∧ v = (v9 && (decide (s.Else.length = 0) || hasB u 101))) ?_ ?_
  · (first | (refine AL.gd ?_; (first | refine AL.d AOp.fa ?_ | refine AL.d (AOp.fr 13) ?_)) | refine AL.gs ?_ | refine AL.gu ?_ | (refine AL.gx (fun hb => ?_) (fun hb => ?_) <;> first | (refine AL.gd ?_; (first | refine AL.d AOp.fa ?_ | refine AL.d (AOp.fr 13) ?_)) | refine AL.gs ?_)) <;> (first | (refine AL.gd ?_; refine AL.d AOp.la ?_) | refine AL.gs ?_ | refine AL.gu ?_) <;> (first | (refine AL.gd ?_; refine AL.d AOp.ln ?_) | refine AL.gs ?_ | refine AL.gu ?_) <;> (first | (refine AL.gd ?_; refine AL.e ?_) | refine AL.gs ?_ | refine AL.gu ?_) <;> (first | (refine AL.gd ?_; refine AL.e ?_) | refine AL.gs ?_ | refine AL.gu ?_) <;> (first | (refine AL.gd ?_; refine AL.e ?_) | refine AL.gs ?_ | refine AL.gu ?_ | (refine AL.gx (fun hb => ?_) (fun hb => ?_) <;> first | (refine AL.gd ?_; refine AL.e ?_) | refine AL.gs ?_)) <;> (first | (refine AL.gd ?_; refine AL.d (AOp.call rfl rfl (hh _)) ?_) | refine AL.gs ?_ | refine AL.gu ?_) <;> (first | (refine AL.gd ?_; refine AL.e ?_) | refine AL.gs ?_ | refine AL.gu ?_) <;> (refine AL.e ?_) <;> (refine AL.nil ?_)
    all_goals (refine AW.meet [117, 1, 2, 5] ⟨_, rfl, rfl, ?_⟩; (try simp only [toList_beq] at *); simp_all [ofConst])
    all_goals (try (rw [Bool.eq_iff_iff]; simp))
  rintro af ah ⟨v10, rfl, rfl, h10⟩
  (refine AL.e ?_) <;> (refine AL.nil ?_)
  refine AW.retv rfl ⟨?_, rfl⟩
  rw [hz]
  subst h1 h2 h3 h4 h5 h6 h7 h8 h9 h10
  rfl
def zeroB (s : GStmt) : Bool :=
  let u := useOf s.Kind
  let empty := decide (s.Lit.Kind = 0) && !s.Lit.Neg && decide (s.Lit.Name = ⟨#[]⟩) && decide (s.Lit.At.length = 0)
  (u.f || decide (s.F = 0)) && (u.g || decide (s.G = 0)) && (u.r || decide (s.R = 0)) && (u.n || decide (s.N = 0)) && (u.name || decide (s.Name = ⟨#[]⟩)) && (u.frm || decide (s.From = ⟨#[]⟩)) && (u.lit || empty) && (u.regs || decide (s.Regs.length = 0)) && (u.body || decide (s.Body.length = 0)) && (u.other || decide (s.Else.length = 0))
structure Chk where
  c : GCode
  A : List (ByteArray × Int)
  S : List (ByteArray × Int)
  gS : MG
  cnt : Int
  bad : Bool
def Chk.box (st : Chk) (ba bs : Nat) : AV := .st [st.c.av, .map ba, .map bs, .int .i64 st.cnt, .bool st.bad]
def Chk.ah (st : Chk) (b ba bs : Nat) (gA : MG) : AH := [.box b (st.box ba bs), .map ba (kvW iav st.A) gA, .map bs (kvW iav st.S) st.gS]
def Chk.need (st : Chk) (is : Bool) : Chk := { st with bad := st.bad || !is }
theorem chk_need (b ba bs : Nat) (gA : MG) (st : Chk) (is : Bool) : Tri Tryz.prog 47 [.ref b 0, .bool is] (st.ah b ba bs gA) (D (.tup []) ((st.need is).ah b ba bs gA)) := by
  have h1 : Tri Tryz.prog 47 [.ref b 0, .bool is] [.box b (st.box ba bs)] (D (.tup []) [.box b ((st.need is).box ba bs)]) := by
    obtain ⟨c, A, S, gS, cnt, bad⟩ := st
    cases bad <;> cases is
    all_goals
      refine Tri.enter 15 Tryz.func47 rfl rfl rfl rfl fun Fr w0 => ?_
      repeat' (first | (refine xS 0 3 ?_; (first | refine AL.d AOp.fa ?_ | refine AL.d (AOp.fr 7) ?_) <;> (first | refine AL.d AOp.la ?_ | refine AL.d (AOp.ll 0) ?_) <;> refine AL.es 1 ?_ <;> (first | refine AL.es 4 ?_ | (refine AL.gx (fun hb => ?_) (fun hb => ?_) <;> refine AL.es 4 ?_)) <;> (first | refine AL.d AOp.fa ?_ | refine AL.d (AOp.fr 7) ?_) <;> refine AL.sl 0 ?_ <;> refine AL.nil ?_) | refine AW.jt ?_ | refine AW.jf ?_ | refine AW.jj (fun hb => ?_) (fun hb => ?_) | refine AW.go ?_ | fail)
      exact AW.donev rfl ⟨rfl, rfl⟩
  exact Tri.frameD (ah := st.ah b ba bs gA) [true] h1
theorem chk_flag (b ba bs : Nat) (gA : MG) (st : Chk) (f : Int) : Tri Tryz.prog 93 [.ref b 0, .int .i64 f] (st.ah b ba bs gA) (D (.tup []) ((st.need (decide (0 ≤ f) && decide (f < st.c.Flags))).ah b ba bs gA)) := by
  have h1 := chk_need b ba bs gA st (decide (f < st.c.Flags))
  have h2 := chk_need b ba bs gA st false
  refine Tri.enter 17 Tryz.func93 rfl rfl rfl rfl fun Fr w0 => ?_
  repeat' (first | (refine xS 0 4 ?_; (first | refine AL.es 3 ?_ | (refine AL.gx (fun hb => ?_) (fun hb => ?_) <;> refine AL.es 3 ?_)) <;> (first | (refine AL.gd ?_; (first | refine AL.d AOp.fa ?_ | refine AL.d (AOp.fr 0) ?_)) | refine AL.gs ?_ | refine AL.gu ?_) <;> (first | (refine AL.gd ?_; (first | refine AL.d AOp.fa ?_ | refine AL.d (AOp.fr 0) ?_)) | refine AL.gs ?_ | refine AL.gu ?_) <;> (first | (refine AL.gd ?_; (first | refine AL.d AOp.la ?_ | refine AL.d (AOp.ll 0) ?_)) | refine AL.gs ?_ | refine AL.gu ?_) <;> refine AL.es 2 ?_ <;> (first | refine AL.d (AOp.call rfl rfl h1) ?_ | refine AL.d (AOp.call rfl rfl h2) ?_) <;> refine AL.nil ?_) | refine AW.jt ?_ | refine AW.jf ?_ | refine AW.jj (fun hb => ?_) (fun hb => ?_) | refine AW.go ?_ | fail)
  · exact AW.donev rfl ⟨rfl, by rw [show decide (0 ≤ f) = true from hb]; rfl⟩
  · exact AW.donev rfl ⟨rfl, by rw [show decide (0 ≤ f) = false from hb]; rfl⟩
def Chk.regs (st : Chk) : List Int → Chk
  | [] => st
  | r :: l => (st.need (decide (0 ≤ r) && decide (r < st.c.Regs))).regs l
theorem chk_regs (b ba bs : Nat) (gA : MG) (st : Chk) (l : List Int) (hl : l.length ≤ 4611686018427387904) : Tri Tryz.prog 94 [.ref b 0, ints l] (st.ah b ba bs gA) (D (.tup []) ((st.regs l).ah b ba bs gA)) := by
  refine Tri.enter 26 Tryz.func94 rfl rfl rfl rfl fun Fr w0 => ?_
  repeat' (first | refine AW.re 0 3 ?_ | refine AW.jt ?_ | refine AW.jf ?_ | refine AW.jj (fun hb => ?_) (fun hb => ?_) | refine AW.go ?_ | fail)
  refine AW.prune [0, 6, 7, 8] (AW.loop (fun m af h => ∃ (i : Nat) (s : Chk), i ≤ l.length ∧ m = l.length - i ∧ af = [(0, .ref b 0), (6, ints l), (7, .int .i64 (l.map iav).length), (8, .int .i64 i)] ∧ h = s.ah b ba bs gA ∧ s.c = st.c ∧ st.regs l = s.regs (l.drop i)) l.length ⟨0, st, Nat.zero_le _, rfl, rfl, rfl, rfl, rfl⟩ ?_)
  rintro m af h ⟨i, s, hi, rfl, rfl, rfl, hsc, he⟩
  refine AW.seq ?_
  by_cases hlt : i < l.length
  · obtain ⟨x, hx⟩ := get_lt hlt
    have hx' : (l.map iav)[((i : Nat) : Int).toNat]? = some (iav x) := map_get hx
    rw [drop_cons hx, Chk.regs] at he
    have h1 := chk_need b ba bs gA s (decide (x < s.c.Regs))
    have h2 := chk_need b ba bs gA s false
    repeat' (first | refine AW.re 0 3 ?_ | refine AW.re 1 1 ?_ | (refine AW.r 2 ?_; refine AL.d (iX hx') ?_; (first | refine AL.d AOp.la ?_ | refine AL.d (AOp.ll 0) ?_) <;> refine AL.es 1 ?_ <;> refine AL.nil ?_) | (refine xS 3 4 ?_; (first | refine AL.es 3 ?_ | (refine AL.gx (fun hb => ?_) (fun hb => ?_) <;> refine AL.es 3 ?_)) <;> (first | (refine AL.gd ?_; (first | refine AL.d AOp.fa ?_ | refine AL.d (AOp.fr 0) ?_)) | refine AL.gs ?_ | refine AL.gu ?_) <;> (first | (refine AL.gd ?_; (first | refine AL.d AOp.fa ?_ | refine AL.d (AOp.fr 1) ?_)) | refine AL.gs ?_ | refine AL.gu ?_) <;> (first | (refine AL.gd ?_; (first | refine AL.d AOp.la ?_ | refine AL.d (AOp.ll 0) ?_)) | refine AL.gs ?_ | refine AL.gu ?_) <;> refine AL.es 2 ?_ <;> (first | refine AL.d (AOp.call rfl rfl h1) ?_ | refine AL.d (AOp.call rfl rfl h2) ?_) <;> refine AL.nil ?_) | (refine AW.r 4 ?_; refine AL.d AOp.ad ?_; refine xN 1 ?_) | refine AW.jt ?_ | refine AW.jf ?_ | refine AW.jj (fun hb => ?_) (fun hb => ?_) | refine AW.go ?_ | fail)
    all_goals first
      | (exfalso; simp only [dT, dF, lM] at *; omega)
      | (refine AW.again_keep (l.length - (i + 1)) [0, 6, 7, 8] (by omega) ⟨i + 1, _, hlt, rfl, rfl, rfl, ?_, ?_⟩; exact hsc; rw [he, show decide (0 ≤ x) = true from hb]; rfl)
      | (refine AW.again_keep (l.length - (i + 1)) [0, 6, 7, 8] (by omega) ⟨i + 1, _, hlt, rfl, rfl, rfl, ?_, ?_⟩; exact hsc; rw [he, show decide (0 ≤ x) = false from hb]; rfl)
  · rw [List.drop_eq_nil_of_le (by omega), Chk.regs] at he
    repeat' (first | refine AW.re 1 1 ?_ | refine AW.jt ?_ | refine AW.jf ?_ | refine AW.jj (fun hb => ?_) (fun hb => ?_) | refine AW.go ?_ | fail)
    all_goals first
      | (exfalso; simp only [dT, dF, lM] at *; omega)
      | exact AW.donev rfl ⟨rfl, by rw [he]⟩
theorem code_spare (s : GStmt) : Tri Tryz.prog 92 [s.st] [] (D (.bool (zeroB s)) []) := by
  have hu := code_fields s.Kind
  have hz : ∀ e : Bool, e = (decide (s.Lit.Kind = 0) && !s.Lit.Neg && decide (s.Lit.Name = ⟨#[]⟩) && decide (s.Lit.At.length = 0)) → zeroB s = (((useOf s.Kind).f || decide (s.F = 0)) && ((useOf s.Kind).g || decide (s.G = 0)) && ((useOf s.Kind).r || decide (s.R = 0)) && ((useOf s.Kind).n || decide (s.N = 0)) && ((useOf s.Kind).name || decide (s.Name = ⟨#[]⟩)) && ((useOf s.Kind).frm || decide (s.From = ⟨#[]⟩)) && ((useOf s.Kind).lit || e) && ((useOf s.Kind).regs || decide (s.Regs.length = 0)) && ((useOf s.Kind).body || decide (s.Body.length = 0)) && ((useOf s.Kind).other || decide (s.Else.length = 0))) := by rintro e rfl; rfl
  generalize useOf s.Kind = u at hu hz
  have l1 : (s.Lit.At.map iav).length = s.Lit.At.length := lM _
  have l2 : (s.Regs.map iav).length = s.Regs.length := lM _
  have l3 : (s.Body.map GStmt.av).length = s.Body.length := lM _
  have l4 : (s.Else.map GStmt.av).length = s.Else.length := lM _
  refine Tri.enter 120 Tryz.func92 rfl rfl rfl rfl fun Fr w0 => ?_
  repeat' (first | (refine AW.r 0 ?_; refine AL.d (AOp.box_ro rfl rfl) ?_; refine xN 1 ?_) | (refine xS 1 2 ?_; refine AL.d (AOp.call rfl rfl hu) ?_; refine AL.alloc_store (by kernel_rfl) rfl rfl rfl rfl ?_; refine AL.nil ?_) | refine AW.jt ?_ | refine AW.jf ?_ | refine AW.jj (fun hb => ?_) (fun hb => ?_) | refine AW.go ?_ | fail)
  refine AW.cut (fun af ah => ∃ e : Bool, af = [(1, .at s.st), (3, .at u.av), (4, .bool e)] ∧ ah = [] ∧ e = (decide (s.Lit.Kind = 0) && !s.Lit.Neg && decide (s.Lit.Name = ⟨#[]⟩) && decide (s.Lit.At.length = 0))) ?_ ?_
  · repeat' (first | (refine xS 2 5 ?_; (first | refine AL.es 6 ?_ | (refine AL.gx (fun hb => ?_) (fun hb => ?_) <;> refine AL.es 6 ?_)) <;> (first | refine AL.es 6 ?_ | (refine AL.gx (fun hb => ?_) (fun hb => ?_) <;> refine AL.es 6 ?_)) <;> (first | refine AL.es 7 ?_ | (refine AL.gx (fun hb => ?_) (fun hb => ?_) <;> refine AL.es 7 ?_)) <;> refine AL.nil ?_) | refine AW.jt ?_ | refine AW.jf ?_ | refine AW.jj (fun hb => ?_) (fun hb => ?_) | refine AW.go ?_ | fail)
    all_goals (refine AW.meet [1, 3, 4] ⟨_, rfl, rfl, ?_⟩; (try simp only [toList_beq] at *); simp_all [ofConst])
    all_goals (rw [Bool.eq_iff_iff]; simp)
  rintro af ah ⟨e, rfl, rfl, he⟩
  have hz := hz e he
  clear he hu
  refine AW.seq ?_
  refine AW.region_at 3 ?_
  refine AL.cut 7 (fun af ah => ∃ v : Bool, af = [(37, .bool v), (1, .at s.st), (3, .at u.av), (4, .bool e)] ∧ ah = [] ∧ v = ((u.f || decide (s.F = 0)))) ?_ ?_
  · (first | refine AL.d AOp.fa ?_ | refine AL.d (AOp.fr 0) ?_) <;> (refine AL.d AOp.la ?_) <;> (refine AL.e ?_) <;> (first | (refine AL.gd ?_; (first | refine AL.d AOp.fa ?_ | refine AL.d (AOp.fr 1) ?_)) | refine AL.gs ?_ | refine AL.gu ?_ | (refine AL.gx (fun hb => ?_) (fun hb => ?_) <;> first | (refine AL.gd ?_; (first | refine AL.d AOp.fa ?_ | refine AL.d (AOp.fr 1) ?_)) | refine AL.gs ?_)) <;> (first | (refine AL.gd ?_; refine AL.d AOp.la ?_) | refine AL.gs ?_ | refine AL.gu ?_) <;> (first | (refine AL.gd ?_; refine AL.e ?_) | refine AL.gs ?_ | refine AL.gu ?_) <;> (refine AL.e ?_) <;> (refine AL.nil ?_)
    all_goals (refine AW.meet [37, 1, 3, 4] ⟨_, rfl, rfl, ?_⟩; (try simp only [toList_beq] at *); simp_all [ofConst])
    all_goals (try (rw [Bool.eq_iff_iff]; simp))
  rintro af ah ⟨v1, rfl, rfl, h1⟩
  refine AL.cut 9 (fun af ah => ∃ v : Bool, af = [(46, .bool v), (1, .at s.st), (3, .at u.av), (4, .bool e)] ∧ ah = [] ∧ v = (v1 && (u.g || decide (s.G = 0)))) ?_ ?_
  · (refine AL.e ?_) <;> (first | (refine AL.gd ?_; (first | refine AL.d AOp.fa ?_ | refine AL.d (AOp.fr 1) ?_)) | refine AL.gs ?_ | refine AL.gu ?_ | (refine AL.gx (fun hb => ?_) (fun hb => ?_) <;> first | (refine AL.gd ?_; (first | refine AL.d AOp.fa ?_ | refine AL.d (AOp.fr 1) ?_)) | refine AL.gs ?_)) <;> (first | (refine AL.gd ?_; refine AL.d AOp.la ?_) | refine AL.gs ?_ | refine AL.gu ?_) <;> (first | (refine AL.gd ?_; refine AL.e ?_) | refine AL.gs ?_ | refine AL.gu ?_) <;> (first | (refine AL.gd ?_; (first | refine AL.d AOp.fa ?_ | refine AL.d (AOp.fr 2) ?_)) | refine AL.gs ?_ | refine AL.gu ?_ | (refine AL.gx (fun hb => ?_) (fun hb => ?_) <;> first | (refine AL.gd ?_; (first | refine AL.d AOp.fa ?_ | refine AL.d (AOp.fr 2) ?_)) | refine AL.gs ?_)) <;> (first | (refine AL.gd ?_; refine AL.d AOp.la ?_) | refine AL.gs ?_ | refine AL.gu ?_) <;> (first | (refine AL.gd ?_; refine AL.e ?_) | refine AL.gs ?_ | refine AL.gu ?_) <;> (first | (refine AL.gd ?_; refine AL.e ?_) | refine AL.gs ?_ | refine AL.gu ?_) <;> (refine AL.e ?_) <;> (refine AL.nil ?_)
    all_goals (refine AW.meet [46, 1, 3, 4] ⟨_, rfl, rfl, ?_⟩; (try simp only [toList_beq] at *); simp_all [ofConst])
    all_goals (try (rw [Bool.eq_iff_iff]; simp))
  rintro af ah ⟨v2, rfl, rfl, h2⟩
  refine AL.cut 9 (fun af ah => ∃ v : Bool, af = [(55, .bool v), (1, .at s.st), (3, .at u.av), (4, .bool e)] ∧ ah = [] ∧ v = (v2 && (u.r || decide (s.R = 0)))) ?_ ?_
  · (refine AL.e ?_) <;> (first | (refine AL.gd ?_; (first | refine AL.d AOp.fa ?_ | refine AL.d (AOp.fr 2) ?_)) | refine AL.gs ?_ | refine AL.gu ?_ | (refine AL.gx (fun hb => ?_) (fun hb => ?_) <;> first | (refine AL.gd ?_; (first | refine AL.d AOp.fa ?_ | refine AL.d (AOp.fr 2) ?_)) | refine AL.gs ?_)) <;> (first | (refine AL.gd ?_; refine AL.d AOp.la ?_) | refine AL.gs ?_ | refine AL.gu ?_) <;> (first | (refine AL.gd ?_; refine AL.e ?_) | refine AL.gs ?_ | refine AL.gu ?_) <;> (first | (refine AL.gd ?_; (first | refine AL.d AOp.fa ?_ | refine AL.d (AOp.fr 3) ?_)) | refine AL.gs ?_ | refine AL.gu ?_ | (refine AL.gx (fun hb => ?_) (fun hb => ?_) <;> first | (refine AL.gd ?_; (first | refine AL.d AOp.fa ?_ | refine AL.d (AOp.fr 3) ?_)) | refine AL.gs ?_)) <;> (first | (refine AL.gd ?_; refine AL.d AOp.la ?_) | refine AL.gs ?_ | refine AL.gu ?_) <;> (first | (refine AL.gd ?_; refine AL.e ?_) | refine AL.gs ?_ | refine AL.gu ?_) <;> (first | (refine AL.gd ?_; refine AL.e ?_) | refine AL.gs ?_ | refine AL.gu ?_) <;> (refine AL.e ?_) <;> (refine AL.nil ?_)
    all_goals (refine AW.meet [55, 1, 3, 4] ⟨_, rfl, rfl, ?_⟩; (try simp only [toList_beq] at *); simp_all [ofConst])
    all_goals (try (rw [Bool.eq_iff_iff]; simp))
  rintro af ah ⟨v3, rfl, rfl, h3⟩
  refine AL.cut 9 (fun af ah => ∃ v : Bool, af = [(64, .bool v), (1, .at s.st), (3, .at u.av), (4, .bool e)] ∧ ah = [] ∧ v = (v3 && (u.n || decide (s.N = 0)))) ?_ ?_
  · (refine AL.e ?_) <;> (first | (refine AL.gd ?_; (first | refine AL.d AOp.fa ?_ | refine AL.d (AOp.fr 3) ?_)) | refine AL.gs ?_ | refine AL.gu ?_ | (refine AL.gx (fun hb => ?_) (fun hb => ?_) <;> first | (refine AL.gd ?_; (first | refine AL.d AOp.fa ?_ | refine AL.d (AOp.fr 3) ?_)) | refine AL.gs ?_)) <;> (first | (refine AL.gd ?_; refine AL.d AOp.la ?_) | refine AL.gs ?_ | refine AL.gu ?_) <;> (first | (refine AL.gd ?_; refine AL.e ?_) | refine AL.gs ?_ | refine AL.gu ?_) <;> (first | (refine AL.gd ?_; (first | refine AL.d AOp.fa ?_ | refine AL.d (AOp.fr 4) ?_)) | refine AL.gs ?_ | refine AL.gu ?_ | (refine AL.gx (fun hb => ?_) (fun hb => ?_) <;> first | (refine AL.gd ?_; (first | refine AL.d AOp.fa ?_ | refine AL.d (AOp.fr 4) ?_)) | refine AL.gs ?_)) <;> (first | (refine AL.gd ?_; refine AL.d AOp.la ?_) | refine AL.gs ?_ | refine AL.gu ?_) <;> (first | (refine AL.gd ?_; refine AL.e ?_) | refine AL.gs ?_ | refine AL.gu ?_) <;> (first | (refine AL.gd ?_; refine AL.e ?_) | refine AL.gs ?_ | refine AL.gu ?_) <;> (refine AL.e ?_) <;> (refine AL.nil ?_)
    all_goals (refine AW.meet [64, 1, 3, 4] ⟨_, rfl, rfl, ?_⟩; (try simp only [toList_beq] at *); simp_all [ofConst])
    all_goals (try (rw [Bool.eq_iff_iff]; simp))
  rintro af ah ⟨v4, rfl, rfl, h4⟩
  refine AL.cut 9 (fun af ah => ∃ v : Bool, af = [(73, .bool v), (1, .at s.st), (3, .at u.av), (4, .bool e)] ∧ ah = [] ∧ v = (v4 && (u.name || decide (s.Name = ⟨#[]⟩)))) ?_ ?_
  · (refine AL.e ?_) <;> (first | (refine AL.gd ?_; (first | refine AL.d AOp.fa ?_ | refine AL.d (AOp.fr 4) ?_)) | refine AL.gs ?_ | refine AL.gu ?_ | (refine AL.gx (fun hb => ?_) (fun hb => ?_) <;> first | (refine AL.gd ?_; (first | refine AL.d AOp.fa ?_ | refine AL.d (AOp.fr 4) ?_)) | refine AL.gs ?_)) <;> (first | (refine AL.gd ?_; refine AL.d AOp.la ?_) | refine AL.gs ?_ | refine AL.gu ?_) <;> (first | (refine AL.gd ?_; refine AL.e ?_) | refine AL.gs ?_ | refine AL.gu ?_) <;> (first | (refine AL.gd ?_; (first | refine AL.d AOp.fa ?_ | refine AL.d (AOp.fr 5) ?_)) | refine AL.gs ?_ | refine AL.gu ?_ | (refine AL.gx (fun hb => ?_) (fun hb => ?_) <;> first | (refine AL.gd ?_; (first | refine AL.d AOp.fa ?_ | refine AL.d (AOp.fr 5) ?_)) | refine AL.gs ?_)) <;> (first | (refine AL.gd ?_; refine AL.d AOp.la ?_) | refine AL.gs ?_ | refine AL.gu ?_) <;> (first | (refine AL.gd ?_; refine AL.e ?_) | refine AL.gs ?_ | refine AL.gu ?_) <;> (first | (refine AL.gd ?_; refine AL.e ?_) | refine AL.gs ?_ | refine AL.gu ?_) <;> (refine AL.e ?_) <;> (refine AL.nil ?_)
    all_goals (refine AW.meet [73, 1, 3, 4] ⟨_, rfl, rfl, ?_⟩; (try simp only [toList_beq] at *); simp_all [ofConst])
    all_goals (try (rw [Bool.eq_iff_iff]; simp))
  rintro af ah ⟨v5, rfl, rfl, h5⟩
  refine AL.cut 9 (fun af ah => ∃ v : Bool, af = [(82, .bool v), (1, .at s.st), (3, .at u.av), (4, .bool e)] ∧ ah = [] ∧ v = (v5 && (u.frm || decide (s.From = ⟨#[]⟩)))) ?_ ?_
  · (refine AL.e ?_) <;> (first | (refine AL.gd ?_; (first | refine AL.d AOp.fa ?_ | refine AL.d (AOp.fr 5) ?_)) | refine AL.gs ?_ | refine AL.gu ?_ | (refine AL.gx (fun hb => ?_) (fun hb => ?_) <;> first | (refine AL.gd ?_; (first | refine AL.d AOp.fa ?_ | refine AL.d (AOp.fr 5) ?_)) | refine AL.gs ?_)) <;> (first | (refine AL.gd ?_; refine AL.d AOp.la ?_) | refine AL.gs ?_ | refine AL.gu ?_) <;> (first | (refine AL.gd ?_; refine AL.e ?_) | refine AL.gs ?_ | refine AL.gu ?_) <;> (first | (refine AL.gd ?_; (first | refine AL.d AOp.fa ?_ | refine AL.d (AOp.fr 6) ?_)) | refine AL.gs ?_ | refine AL.gu ?_ | (refine AL.gx (fun hb => ?_) (fun hb => ?_) <;> first | (refine AL.gd ?_; (first | refine AL.d AOp.fa ?_ | refine AL.d (AOp.fr 6) ?_)) | refine AL.gs ?_)) <;> (first | (refine AL.gd ?_; refine AL.d AOp.la ?_) | refine AL.gs ?_ | refine AL.gu ?_) <;> (first | (refine AL.gd ?_; refine AL.e ?_) | refine AL.gs ?_ | refine AL.gu ?_) <;> (first | (refine AL.gd ?_; refine AL.e ?_) | refine AL.gs ?_ | refine AL.gu ?_) <;> (refine AL.e ?_) <;> (refine AL.nil ?_)
    all_goals (refine AW.meet [82, 1, 3, 4] ⟨_, rfl, rfl, ?_⟩; (try simp only [toList_beq] at *); simp_all [ofConst])
    all_goals (try (rw [Bool.eq_iff_iff]; simp))
  rintro af ah ⟨v6, rfl, rfl, h6⟩
  refine AL.cut 7 (fun af ah => ∃ v : Bool, af = [(89, .bool v), (1, .at s.st), (3, .at u.av), (4, .bool e)] ∧ ah = [] ∧ v = (v6 && (u.lit || e))) ?_ ?_
  · (refine AL.e ?_) <;> (first | (refine AL.gd ?_; (first | refine AL.d AOp.fa ?_ | refine AL.d (AOp.fr 6) ?_)) | refine AL.gs ?_ | refine AL.gu ?_ | (refine AL.gx (fun hb => ?_) (fun hb => ?_) <;> first | (refine AL.gd ?_; (first | refine AL.d AOp.fa ?_ | refine AL.d (AOp.fr 6) ?_)) | refine AL.gs ?_)) <;> (first | (refine AL.gd ?_; refine AL.d AOp.la ?_) | refine AL.gs ?_ | refine AL.gu ?_) <;> (first | (refine AL.gd ?_; refine AL.e ?_) | refine AL.gs ?_ | refine AL.gu ?_) <;> (first | (refine AL.gd ?_; refine AL.e ?_) | refine AL.gs ?_ | refine AL.gu ?_ | (refine AL.gx (fun hb => ?_) (fun hb => ?_) <;> first | (refine AL.gd ?_; refine AL.e ?_) | refine AL.gs ?_)) <;> (first | (refine AL.gd ?_; refine AL.e ?_) | refine AL.gs ?_ | refine AL.gu ?_) <;> (refine AL.e ?_) <;> (refine AL.nil ?_)
    all_goals (refine AW.meet [89, 1, 3, 4] ⟨_, rfl, rfl, ?_⟩; (try simp only [toList_beq] at *); simp_all [ofConst])
    all_goals (try (rw [Bool.eq_iff_iff]; simp))
  rintro af ah ⟨v7, rfl, rfl, h7⟩
  refine AL.cut 10 (fun af ah => ∃ v : Bool, af = [(99, .bool v), (1, .at s.st), (3, .at u.av), (4, .bool e)] ∧ ah = [] ∧ v = (v7 && (u.regs || decide (s.Regs.length = 0)))) ?_ ?_
  · (refine AL.e ?_) <;> (first | (refine AL.gd ?_; (first | refine AL.d AOp.fa ?_ | refine AL.d (AOp.fr 7) ?_)) | refine AL.gs ?_ | refine AL.gu ?_ | (refine AL.gx (fun hb => ?_) (fun hb => ?_) <;> first | (refine AL.gd ?_; (first | refine AL.d AOp.fa ?_ | refine AL.d (AOp.fr 7) ?_)) | refine AL.gs ?_)) <;> (first | (refine AL.gd ?_; refine AL.d AOp.la ?_) | refine AL.gs ?_ | refine AL.gu ?_) <;> (first | (refine AL.gd ?_; refine AL.e ?_) | refine AL.gs ?_ | refine AL.gu ?_) <;> (first | (refine AL.gd ?_; (first | refine AL.d AOp.fa ?_ | refine AL.d (AOp.fr 11) ?_)) | refine AL.gs ?_ | refine AL.gu ?_ | (refine AL.gx (fun hb => ?_) (fun hb => ?_) <;> first | (refine AL.gd ?_; (first | refine AL.d AOp.fa ?_ | refine AL.d (AOp.fr 11) ?_)) | refine AL.gs ?_)) <;> (first | (refine AL.gd ?_; refine AL.d AOp.la ?_) | refine AL.gs ?_ | refine AL.gu ?_) <;> (first | (refine AL.gd ?_; refine AL.d AOp.ln ?_) | refine AL.gs ?_ | refine AL.gu ?_) <;> (first | (refine AL.gd ?_; refine AL.e ?_) | refine AL.gs ?_ | refine AL.gu ?_) <;> (first | (refine AL.gd ?_; refine AL.e ?_) | refine AL.gs ?_ | refine AL.gu ?_) <;> (refine AL.e ?_) <;> (refine AL.nil ?_)
    all_goals (refine AW.meet [99, 1, 3, 4] ⟨_, rfl, rfl, ?_⟩; (try simp only [toList_beq] at *); simp_all [ofConst])
    all_goals (try (rw [Bool.eq_iff_iff]; simp))
  rintro af ah ⟨v8, rfl, rfl, h8⟩
  refine AL.cut 10 (fun af ah => ∃ v : Bool, af = [(109, .bool v), (1, .at s.st), (3, .at u.av), (4, .bool e)] ∧ ah = [] ∧ v = (v8 && (u.body || decide (s.Body.length = 0)))) ?_ ?_
  · (refine AL.e ?_) <;> (first | (refine AL.gd ?_; (first | refine AL.d AOp.fa ?_ | refine AL.d (AOp.fr 8) ?_)) | refine AL.gs ?_ | refine AL.gu ?_ | (refine AL.gx (fun hb => ?_) (fun hb => ?_) <;> first | (refine AL.gd ?_; (first | refine AL.d AOp.fa ?_ | refine AL.d (AOp.fr 8) ?_)) | refine AL.gs ?_)) <;> (first | (refine AL.gd ?_; refine AL.d AOp.la ?_) | refine AL.gs ?_ | refine AL.gu ?_) <;> (first | (refine AL.gd ?_; refine AL.e ?_) | refine AL.gs ?_ | refine AL.gu ?_) <;> (first | (refine AL.gd ?_; (first | refine AL.d AOp.fa ?_ | refine AL.d (AOp.fr 12) ?_)) | refine AL.gs ?_ | refine AL.gu ?_ | (refine AL.gx (fun hb => ?_) (fun hb => ?_) <;> first | (refine AL.gd ?_; (first | refine AL.d AOp.fa ?_ | refine AL.d (AOp.fr 12) ?_)) | refine AL.gs ?_)) <;> (first | (refine AL.gd ?_; refine AL.d AOp.la ?_) | refine AL.gs ?_ | refine AL.gu ?_) <;> (first | (refine AL.gd ?_; refine AL.d AOp.ln ?_) | refine AL.gs ?_ | refine AL.gu ?_) <;> (first | (refine AL.gd ?_; refine AL.e ?_) | refine AL.gs ?_ | refine AL.gu ?_) <;> (first | (refine AL.gd ?_; refine AL.e ?_) | refine AL.gs ?_ | refine AL.gu ?_) <;> (refine AL.e ?_) <;> (refine AL.nil ?_)
    all_goals (refine AW.meet [109, 1, 3, 4] ⟨_, rfl, rfl, ?_⟩; (try simp only [toList_beq] at *); simp_all [ofConst])
    all_goals (try (rw [Bool.eq_iff_iff]; simp))
  rintro af ah ⟨v9, rfl, rfl, h9⟩
  refine AL.cut 10 (fun af ah => ∃ v : Bool, af = [(119, .bool v), (1, .at s.st), (3, .at u.av), (4, .bool e)] ∧ ah = [] ∧ v = (v9 && (u.other || decide (s.Else.length = 0)))) ?_ ?_
  · (refine AL.e ?_) <;> (first | (refine AL.gd ?_; (first | refine AL.d AOp.fa ?_ | refine AL.d (AOp.fr 9) ?_)) | refine AL.gs ?_ | refine AL.gu ?_ | (refine AL.gx (fun hb => ?_) (fun hb => ?_) <;> first | (refine AL.gd ?_; (first | refine AL.d AOp.fa ?_ | refine AL.d (AOp.fr 9) ?_)) | refine AL.gs ?_)) <;> (first | (refine AL.gd ?_; refine AL.d AOp.la ?_) | refine AL.gs ?_ | refine AL.gu ?_) <;> (first | (refine AL.gd ?_; refine AL.e ?_) | refine AL.gs ?_ | refine AL.gu ?_) <;> (first | (refine AL.gd ?_; (first | refine AL.d AOp.fa ?_ | refine AL.d (AOp.fr 13) ?_)) | refine AL.gs ?_ | refine AL.gu ?_ | (refine AL.gx (fun hb => ?_) (fun hb => ?_) <;> first | (refine AL.gd ?_; (first | refine AL.d AOp.fa ?_ | refine AL.d (AOp.fr 13) ?_)) | refine AL.gs ?_)) <;> (first | (refine AL.gd ?_; refine AL.d AOp.la ?_) | refine AL.gs ?_ | refine AL.gu ?_) <;> (first | (refine AL.gd ?_; refine AL.d AOp.ln ?_) | refine AL.gs ?_ | refine AL.gu ?_) <;> (first | (refine AL.gd ?_; refine AL.e ?_) | refine AL.gs ?_ | refine AL.gu ?_) <;> (first | (refine AL.gd ?_; refine AL.e ?_) | refine AL.gs ?_ | refine AL.gu ?_) <;> (refine AL.e ?_) <;> (refine AL.nil ?_)
    all_goals (refine AW.meet [119, 1, 3, 4] ⟨_, rfl, rfl, ?_⟩; (try simp only [toList_beq] at *); simp_all [ofConst])
    all_goals (try (rw [Bool.eq_iff_iff]; simp))
  rintro af ah ⟨v10, rfl, rfl, h10⟩
  (refine AL.e ?_) <;> (refine AL.nil ?_)
  refine AW.retv rfl ⟨?_, rfl⟩
  rw [hz]
  subst h1 h2 h3 h4 h5 h6 h7 h8 h9 h10
  rfl
def Chk.lit (st : Chk) (l : GLit) : Chk :=
  let s1 := st.regs l.At
  if l.Kind = 1 ∨ l.Kind = 2 then s1.need (decide (l.Name = ⟨#[]⟩) && decide (l.At.length = 2))
  else
    let s2 := s1.need (decide (l.Kind = 0) && nameB l.Name && decide (l.At.length ≤ 12))
    match lookA s2.A l.Name with
    | some n => s2.need (decide (n = l.At.length))
    | none =>
      let s3 := s2.need (match lookA s2.S l.Name with | none => true | some n => decide (n = l.At.length))
      { s3 with S := setA s3.S l.Name l.At.length, gS := gsetA s3.S s3.gS l.Name }
theorem chk_lit (b ba bs : Nat) (gA : MG) (st : Chk) (l : GLit) (hl : l.Ok) : Tri Tryz.prog 95 [.ref b 0, l.av] (st.ah b ba bs gA) (D (.tup []) ((st.lit l).ah b ba bs gA)) := by
  obtain ⟨_, hl1, hl2, _⟩ := hl
  have h1 := chk_regs b ba bs gA st l.At (by omega)
  have h2 := shape_Name l.Name hl1
  have hf : st.lit l = (let s1 := st.regs l.At; if l.Kind = 1 ∨ l.Kind = 2 then s1.need (decide (l.Name = ⟨#[]⟩) && decide (l.At.length = 2)) else
    let s2 := s1.need (decide (l.Kind = 0) && nameB l.Name && decide (l.At.length ≤ 12))
    match lookA s1.A l.Name with
    | some n => s2.need (decide (n = l.At.length))
    | none =>
      let s3 := s2.need (match lookA s1.S l.Name with | none => true | some n => decide (n = l.At.length))
      { s3 with S := setA s1.S l.Name l.At.length, gS := gsetA s1.S s1.gS l.Name }) := rfl
  generalize st.lit l = sf at *
  generalize st.regs l.At = s1 at *
  obtain ⟨c, A, S, gS, cnt, bad⟩ := s1
  have hlen : ((l.At.map iav).length : Int) = l.At.length := by simp
  refine Tri.enter 95 Tryz.func95 rfl rfl rfl rfl fun Fr w0 => ?_
  repeat' (first | (refine AW.r 0 ?_; (first | refine AL.d (AOp.box_ro (v := .st [.int .i64 l.Kind, .bool l.Neg, .str l.Name, ints l.At]) rfl rfl) ?_ | refine AL.d (AOp.box_ro rfl rfl) ?_) <;> refine AL.nil ?_) | (refine xS 1 1 ?_; (first | refine AL.d AOp.fa ?_ | refine AL.d (AOp.fr 3) ?_) <;> (first | refine AL.d AOp.la ?_ | refine AL.d (AOp.ll 0) ?_) <;> (first | refine AL.d (AOp.call rfl rfl h1) ?_ | refine AL.d (AOp.call rfl rfl (h2.pure _)) ?_ | refine AL.d (AOp.call rfl rfl (chk_need b ba bs gA _ _)) ?_) <;> refine AL.nil ?_) | (refine AW.r 2 ?_; (first | refine AL.d AOp.fa ?_ | refine AL.d (AOp.fr 0) ?_) <;> (first | refine AL.d AOp.la ?_ | refine AL.d (AOp.ll 0) ?_) <;> refine AL.es 2 ?_ <;> (first | (refine AL.gd ?_; (first | refine AL.d AOp.fa ?_ | refine AL.d (AOp.fr 0) ?_)) | refine AL.gs ?_ | refine AL.gu ?_ | (refine AL.gx (fun hb => ?_) (fun hb => ?_) <;> first | (refine AL.gd ?_; (first | refine AL.d AOp.fa ?_ | refine AL.d (AOp.fr 0) ?_)) | refine AL.gs ?_)) <;> (first | (refine AL.gd ?_; (first | refine AL.d AOp.la ?_ | refine AL.d (AOp.ll 0) ?_)) | refine AL.gs ?_ | refine AL.gu ?_) <;> refine AL.es 2 ?_ <;> refine AL.nil ?_) | (refine xS 3 1 ?_; (first | refine AL.d AOp.fa ?_ | refine AL.d (AOp.fr 2) ?_) <;> (first | refine AL.d AOp.la ?_ | refine AL.d (AOp.ll 0) ?_) <;> refine AL.es 2 ?_ <;> (first | (refine AL.gd ?_; (first | refine AL.d AOp.fa ?_ | refine AL.d (AOp.fr 3) ?_)) | refine AL.gs ?_ | refine AL.gu ?_ | (refine AL.gx (fun hb => ?_) (fun hb => ?_) <;> first | (refine AL.gd ?_; (first | refine AL.d AOp.fa ?_ | refine AL.d (AOp.fr 3) ?_)) | refine AL.gs ?_)) <;> (first | (refine AL.gd ?_; (first | refine AL.d AOp.la ?_ | refine AL.d (AOp.ll 0) ?_)) | refine AL.gs ?_ | refine AL.gu ?_) <;> refine AL.es 3 ?_ <;> (first | refine AL.d (AOp.call rfl rfl h1) ?_ | refine AL.d (AOp.call rfl rfl (h2.pure _)) ?_ | refine AL.d (AOp.call rfl rfl (chk_need b ba bs gA _ _)) ?_) <;> refine AL.nil ?_) | (refine xS 4 1 ?_; (first | refine AL.d AOp.fa ?_ | refine AL.d (AOp.fr 0) ?_) <;> (first | refine AL.d AOp.la ?_ | refine AL.d (AOp.ll 0) ?_) <;> refine AL.es 2 ?_ <;> (first | (refine AL.gd ?_; (first | refine AL.d AOp.fa ?_ | refine AL.d (AOp.fr 2) ?_)) | refine AL.gs ?_ | refine AL.gu ?_ | (refine AL.gx (fun hb => ?_) (fun hb => ?_) <;> first | (refine AL.gd ?_; (first | refine AL.d AOp.fa ?_ | refine AL.d (AOp.fr 2) ?_)) | refine AL.gs ?_)) <;> (first | (refine AL.gd ?_; (first | refine AL.d AOp.la ?_ | refine AL.d (AOp.ll 0) ?_)) | refine AL.gs ?_ | refine AL.gu ?_) <;> (first | (refine AL.gd ?_; (first | refine AL.d (AOp.call rfl rfl h1) ?_ | refine AL.d (AOp.call rfl rfl (h2.pure _)) ?_ | refine AL.d (AOp.call rfl rfl (chk_need b ba bs gA _ _)) ?_)) | refine AL.gs ?_ | refine AL.gu ?_) <;> refine AL.es 2 ?_ <;> (first | (refine AL.gd ?_; (first | refine AL.d AOp.fa ?_ | refine AL.d (AOp.fr 3) ?_)) | refine AL.gs ?_ | refine AL.gu ?_ | (refine AL.gx (fun hb => ?_) (fun hb => ?_) <;> first | (refine AL.gd ?_; (first | refine AL.d AOp.fa ?_ | refine AL.d (AOp.fr 3) ?_)) | refine AL.gs ?_)) <;> (first | (refine AL.gd ?_; (first | refine AL.d AOp.la ?_ | refine AL.d (AOp.ll 0) ?_)) | refine AL.gs ?_ | refine AL.gu ?_) <;> refine AL.es 3 ?_ <;> (first | refine AL.d (AOp.call rfl rfl h1) ?_ | refine AL.d (AOp.call rfl rfl (h2.pure _)) ?_ | refine AL.d (AOp.call rfl rfl (chk_need b ba bs gA _ _)) ?_) <;> refine AL.nil ?_) | (refine AW.dq 5 ?_; refine AQ.es 2 ?_; (first | refine AQ.p rfl AOp.fa ?_ | refine AQ.p rfl (AOp.fr 4) ?_) <;> (first | refine AQ.p rfl AOp.la ?_ | refine AQ.p rfl (AOp.ll 0) ?_) <;> (first | refine AQ.p rfl AOp.fa ?_ | refine AQ.p rfl (AOp.fr 2) ?_) <;> (first | refine AQ.p rfl AOp.la ?_ | refine AQ.p rfl (AOp.ll 0) ?_) <;> (first | refine AQ.p rfl (AOp.lookS_int 1 3 rfl rfl rfl (by kernel_rfl) (by kernel_rfl)) ?_ | refine AQ.p rfl (AOp.lookS_int 2 3 rfl rfl rfl (by kernel_rfl) (by kernel_rfl)) ?_) <;> refine AQ.es 5 ?_ <;> refine AQ.nil ?_) | refine AW.re 6 1 ?_ | (refine xS 7 2 ?_; (first | refine AL.d AOp.fa ?_ | refine AL.d (AOp.fr 3) ?_) <;> (first | refine AL.d AOp.la ?_ | refine AL.d (AOp.ll 0) ?_) <;> refine AL.es 2 ?_ <;> (first | refine AL.d (AOp.call rfl rfl h1) ?_ | refine AL.d (AOp.call rfl rfl (h2.pure _)) ?_ | refine AL.d (AOp.call rfl rfl (chk_need b ba bs gA _ _)) ?_) <;> refine AL.nil ?_) | (refine AW.dq 8 ?_; refine AQ.es 2 ?_; (first | refine AQ.p rfl AOp.fa ?_ | refine AQ.p rfl (AOp.fr 5) ?_) <;> (first | refine AQ.p rfl AOp.la ?_ | refine AQ.p rfl (AOp.ll 0) ?_) <;> (first | refine AQ.p rfl AOp.fa ?_ | refine AQ.p rfl (AOp.fr 2) ?_) <;> (first | refine AQ.p rfl AOp.la ?_ | refine AQ.p rfl (AOp.ll 0) ?_) <;> (first | refine AQ.p rfl (AOp.lookS_int 1 3 rfl rfl rfl (by kernel_rfl) (by kernel_rfl)) ?_ | refine AQ.p rfl (AOp.lookS_int 2 3 rfl rfl rfl (by kernel_rfl) (by kernel_rfl)) ?_) <;> refine AQ.es 5 ?_ <;> refine AQ.nil ?_) | (refine xS 9 4 ?_; (first | refine AL.es 1 ?_ | (refine AL.gx (fun hb => ?_) (fun hb => ?_) <;> refine AL.es 1 ?_)) <;> (first | (refine AL.gd ?_; (first | refine AL.d AOp.fa ?_ | refine AL.d (AOp.fr 3) ?_)) | refine AL.gs ?_ | refine AL.gu ?_) <;> (first | (refine AL.gd ?_; (first | refine AL.d AOp.la ?_ | refine AL.d (AOp.ll 0) ?_)) | refine AL.gs ?_ | refine AL.gu ?_) <;> refine AL.es 3 ?_ <;> (first | refine AL.d (AOp.call rfl rfl h1) ?_ | refine AL.d (AOp.call rfl rfl (h2.pure _)) ?_ | refine AL.d (AOp.call rfl rfl (chk_need b ba bs gA _ _)) ?_) <;> refine AL.nil ?_) | (refine AW.dl 10 9 ?_; refine AQ.es 2 ?_; (first | refine AQ.p rfl AOp.fa ?_ | refine AQ.p rfl (AOp.fr 5) ?_) <;> (first | refine AQ.p rfl AOp.la ?_ | refine AQ.p rfl (AOp.ll 0) ?_) <;> (first | refine AQ.p rfl AOp.fa ?_ | refine AQ.p rfl (AOp.fr 2) ?_) <;> (first | refine AQ.p rfl AOp.la ?_ | refine AQ.p rfl (AOp.ll 0) ?_) <;> (first | refine AQ.p rfl AOp.fa ?_ | refine AQ.p rfl (AOp.fr 3) ?_) <;> (first | refine AQ.p rfl AOp.la ?_ | refine AQ.p rfl (AOp.ll 0) ?_) <;> refine AQ.es 1 ?_ <;> refine AQ.nil ?_ <;> refine AL.setS 2 3 iav _ rfl rfl rfl rfl (by kernel_rfl) ?_ <;> refine AL.nil ?_) | refine AW.jt ?_ | refine AW.jf ?_ | refine AW.jj (fun hb => ?_) (fun hb => ?_) | refine AW.go ?_ | fail)
  all_goals first | refine AW.retv rfl ⟨rfl, ?_⟩ | refine AW.donev rfl ⟨rfl, ?_⟩
  all_goals (clear h1 h2; subst hf; simp only [toList_beq, beq_iff_eq, beq_eq_false_iff_ne, ne_eq, dT, dF, Chk.need, Bool.not_eq_true', Bool.not_eq_false'] at *)
  all_goals (cases hA : lookA A l.Name <;> cases hS : lookA S l.Name)
  all_goals simp_all [Chk.ah, Chk.box, ofConst, iav]
  all_goals (try (congr 2; rw [Bool.eq_iff_iff]; simp; try omega))
def Chk.flag (st : Chk) (f : Int) : Chk := st.need (decide (0 ≤ f) && decide (f < st.c.Flags))
def Chk.flds (st : Chk) (s : GStmt) : Chk :=
  let u := useOf s.Kind
  let st := st.need (zeroB s)
  let st := if u.f then st.flag s.F else st
  let st := if u.g && decide (s.Kind ≠ 4) then st.flag s.G else st
  let st := if s.Kind = 4 then st.need (decide (s.G = 0) || decide (s.G = 1)) else st
  let st := if u.r then st.regs [s.R] else st
  let st := st.need (decide (0 ≤ s.N) && decide (s.N ≤ 12))
  let st := if u.lit then st.lit s.Lit else st
  let st := st.regs s.Regs
  let n := (lookA st.A s.Name).getD 0
  let is := (lookA st.A s.Name).isSome
  let st := st.need (!u.name || is)
  let st := st.need (!u.regs || decide (n = s.Regs.length))
  if u.frm then st.need ((lookA st.A s.From).isSome && decide (n = (lookA st.A s.From).getD 0)) else st
def Chk.enter (st : Chk) (s : GStmt) (level : Int) : Chk :=
  ({ st with cnt := st.cnt + 1 } : Chk).need (decide (0 ≤ s.Kind) && decide (s.Kind < 15) && decide (st.cnt + 1 ≤ 20000) && decide (level ≤ 60))
mutual
def stmtP : GStmt → Int → Chk → Chk
  | ⟨k, f, g, r, n, nm, fr, lit, regs, body, els⟩, level, st =>
    let s1 := st.enter ⟨k, f, g, r, n, nm, fr, lit, regs, body, els⟩ level
    if s1.bad then s1 else
      let s2 := s1.flds ⟨k, f, g, r, n, nm, fr, lit, regs, body, els⟩
      let p := listP body (level + 1) s2
      if p.2 then p.1 else (listP els (level + 1) p.1).1
def listP : List GStmt → Int → Chk → Chk × Bool
  | [], _, st => (st, false)
  | x :: l, level, st => let s1 := stmtP x level st; if s1.bad then (s1, true) else listP l level s1
end
theorem stmtP_eq (s : GStmt) (level : Int) (st : Chk) : stmtP s level st = (let s1 := st.enter s level; if s1.bad then s1 else let p := listP s.Body (level + 1) (s1.flds s); if p.2 then p.1 else (listP s.Else (level + 1) p.1).1) := by cases s; rfl
theorem Chk.regs_cnt : ∀ (l : List Int) (st : Chk), (st.regs l).cnt = st.cnt
  | [], st => rfl
  | r :: l, st => by rw [Chk.regs, Chk.regs_cnt l]; rfl
theorem Chk.lit_cnt (st : Chk) (l : GLit) : (st.lit l).cnt = st.cnt := by
  unfold Chk.lit
  simp only
  split
  · exact st.regs_cnt l.At
  · split
    · exact st.regs_cnt l.At
    · exact st.regs_cnt l.At
theorem Chk.flds_cnt (st : Chk) (s : GStmt) : (st.flds s).cnt = st.cnt := by
  have hif : ∀ (c : Prop) [Decidable c] (a b : Chk) (n : Int), a.cnt = n → b.cnt = n → (if c then a else b).cnt = n := fun c _ a b n h1 h2 => by split <;> assumption
  unfold Chk.flds
  simp only
  refine hif _ _ _ _ ?_ ?_
  all_goals simp only [Chk.need, Chk.regs_cnt]
  all_goals (refine hif _ _ _ _ ?_ ?_)
  all_goals (try rw [Chk.lit_cnt])
  all_goals (refine hif _ _ _ _ ?_ ?_)
  all_goals (try rw [Chk.regs_cnt])
  all_goals (refine hif _ _ _ _ ?_ ?_)
  all_goals (try simp only [Chk.need])
  all_goals (refine hif _ _ _ _ ?_ ?_)
  all_goals (try simp only [Chk.flag, Chk.need])
  all_goals (refine hif _ _ _ _ ?_ ?_)
  all_goals rfl
mutual
theorem stmtP_cnt : ∀ (s : GStmt) (level : Int) (st : Chk), 0 ≤ st.cnt → st.cnt ≤ 20000 → 0 ≤ (stmtP s level st).cnt ∧ (stmtP s level st).cnt ≤ 20001 ∧ ((stmtP s level st).bad = false → (stmtP s level st).cnt ≤ 20000)
  | ⟨k, f, g, r, n, nm, fr, lit, regs, body, els⟩, level, st, h0, h1 => by
    rw [stmtP]
    try simp only
    generalize hs1 : st.enter ⟨k, f, g, r, n, nm, fr, lit, regs, body, els⟩ level = s1
    have hc : s1.cnt = st.cnt + 1 := by rw [← hs1]; rfl
    by_cases hb : s1.bad = true
    · rw [if_pos hb]; exact ⟨by omega, by omega, fun h => by rw [hb] at h; cases h⟩
    · rw [if_neg hb]
      have hle : st.cnt + 1 ≤ 20000 := by
        rw [← hs1] at hb
        simp only [Chk.enter, Chk.need, Bool.not_eq_true, Bool.or_eq_false_iff, Bool.not_eq_false', bA, dT] at hb
        exact hb.2.1.2
      have hf := s1.flds_cnt ⟨k, f, g, r, n, nm, fr, lit, regs, body, els⟩
      generalize s1.flds ⟨k, f, g, r, n, nm, fr, lit, regs, body, els⟩ = s2 at hf ⊢
      have e1 := listP_cnt body (level + 1) s2 (by omega) (by omega)
      by_cases hp : (listP body (level + 1) s2).2 = true
      · rw [if_pos hp]; exact ⟨e1.1, e1.2.1, e1.2.2.1⟩
      · rw [if_neg hp]
        have e2 := listP_cnt els (level + 1) _ e1.1 (e1.2.2.2 (by simpa using hp))
        exact ⟨e2.1, e2.2.1, e2.2.2.1⟩
theorem listP_cnt : ∀ (l : List GStmt) (level : Int) (st : Chk), 0 ≤ st.cnt → st.cnt ≤ 20000 → 0 ≤ (listP l level st).1.cnt ∧ (listP l level st).1.cnt ≤ 20001 ∧ ((listP l level st).1.bad = false → (listP l level st).1.cnt ≤ 20000) ∧ ((listP l level st).2 = false → (listP l level st).1.cnt ≤ 20000)
  | [], level, st, h0, h1 => by rw [listP]; exact ⟨h0, by show st.cnt ≤ _; omega, fun _ => h1, fun _ => h1⟩
  | x :: l, level, st, h0, h1 => by
    have e1 := stmtP_cnt x level st h0 h1
    rw [listP]
    try simp only
    by_cases hb : (stmtP x level st).bad = true
    · rw [if_pos hb]; exact ⟨e1.1, e1.2.1, e1.2.2, fun h => by cases h⟩
    · rw [if_neg hb]
      exact listP_cnt l level _ e1.1 (e1.2.2 (by simpa using hb))
end
end Go.Proofs.YtkolalhekgmmdaaGreat
