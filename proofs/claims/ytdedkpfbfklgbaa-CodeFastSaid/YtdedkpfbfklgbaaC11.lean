/- Contracts: the checker's small functions. -/
import Derived.Test.YtdedkpfbfklgbaaC10
import Derived.Test.YtdedkpfbfklgbaaS2
namespace Go.Proofs.Ytdedkpfbfklgbaa
open Go.RowKit Go.SX
set_option maxRecDepth 100000
set_option linter.unusedVariables false
set_option linter.unusedSimpArgs false

def zeroB (s : GStmt) : Bool :=
  let u := useOf s.Kind
  let empty := decide (s.Lit.Kind = 0) && !s.Lit.Neg && decide (s.Lit.Name = ⟨#[]⟩) && decide (s.Lit.At.length = 0)
  (u.f || decide (s.F = 0)) && (u.g || decide (s.G = 0)) && (u.r || decide (s.R = 0)) && (u.n || decide (s.N = 0)) && (u.name || decide (s.Name = ⟨#[]⟩)) && (u.frm || decide (s.From = ⟨#[]⟩)) && (u.lit || empty) && (u.regs || decide (s.Regs.length = 0)) && (u.body || decide (s.Body.length = 0)) && (u.other || decide (s.Else.length = 0))
structure Chk where
  c : GCode
  A : List (ByteArray × Int)
  S : List (ByteArray × Int)
  gS : MG
  cnt : Int
  bad : Bool
def Chk.box (st : Chk) (ba bs : Nat) : AV := .st [st.c.av, .map ba, .map bs, .int .i64 st.cnt, .bool st.bad]
def Chk.ah (st : Chk) (b ba bs : Nat) (gA : MG) : AH := [.box b (st.box ba bs), .map ba (kvW iav st.A) gA, .map bs (kvW iav st.S) st.gS]
def Chk.need (st : Chk) (is : Bool) : Chk := { st with bad := st.bad || !is }
theorem chk_need (b ba bs : Nat) (gA : MG) (st : Chk) (is : Bool) : Tri Try.prog 35 [.ref b 0, .bool is] (st.ah b ba bs gA) (D (.tup []) ((st.need is).ah b ba bs gA)) := by
  have h1 : Tri Try.prog 35 [.ref b 0, .bool is] [.box b (st.box ba bs)] (D (.tup []) [.box b ((st.need is).box ba bs)]) := by
    obtain ⟨c, A, S, gS, cnt, bad⟩ := st
    cases bad <;> cases is
    all_goals
      refine Tri.enter 15 Try.func35 rfl rfl rfl rfl fun Fr w0 => ?_
      repeat' (first
        | refine AW.seq ?_
        | (refine AW.region_at 0 ?_ <;> refine AL.ev rfl rfl rfl rfl ?_ <;> refine AL.ev rfl rfl rfl rfl ?_ <;> refine AL.ev rfl rfl rfl rfl ?_ <;> (first | refine AL.det (AOp.field_at rfl rfl (by kernel_rfl) rfl) rfl rfl rfl ?_ | refine AL.det (AOp.field_ref (off := 7) rfl (by kernel_rfl)) rfl rfl rfl ?_) <;> (first | refine AL.det (AOp.load_at rfl rfl (by kernel_rfl)) rfl rfl rfl ?_ | refine AL.det (AOp.load_leaf 0 rfl rfl rfl rfl (by kernel_rfl)) rfl rfl rfl ?_ | refine AL.det (AOp.load_all 0 rfl rfl rfl (by kernel_rfl)) rfl rfl rfl ?_) <;> refine AL.ev rfl rfl rfl rfl ?_ <;> (first | (refine AL.guard_do rfl rfl rfl rfl ?_; refine AL.ev rfl rfl rfl rfl ?_) | refine AL.guard_skip rfl rfl rfl rfl rfl ?_ | refine AL.guard_undef rfl rfl rfl rfl ?_ | (refine AL.guard_split rfl rfl rfl (fun hb => ?_) (fun hb => ?_) <;> first | (refine AL.guard_do rfl rfl rfl rfl ?_; refine AL.ev rfl rfl rfl rfl ?_) | refine AL.guard_skip rfl rfl rfl rfl rfl ?_)) <;> (first | (refine AL.guard_do rfl rfl rfl rfl ?_; refine AL.ev rfl rfl rfl rfl ?_) | refine AL.guard_skip rfl rfl rfl rfl rfl ?_ | refine AL.guard_undef rfl rfl rfl rfl ?_ | (refine AL.guard_split rfl rfl rfl (fun hb => ?_) (fun hb => ?_) <;> first | (refine AL.guard_do rfl rfl rfl rfl ?_; refine AL.ev rfl rfl rfl rfl ?_) | refine AL.guard_skip rfl rfl rfl rfl rfl ?_)) <;> refine AL.ev rfl rfl rfl rfl ?_ <;> refine AL.ev rfl rfl rfl rfl ?_ <;> (first | refine AL.det (AOp.field_at rfl rfl (by kernel_rfl) rfl) rfl rfl rfl ?_ | refine AL.det (AOp.field_ref (off := 7) rfl (by kernel_rfl)) rfl rfl rfl ?_) <;> refine AL.store_leaf 0 rfl rfl rfl rfl rfl (by kernel_rfl) ?_ <;> refine AL.nil ?_)
        | refine AW.cond_true rfl ?_
        | refine AW.cond_false rfl ?_
        | refine AW.block ?_
        | refine AW.endblk ?_
        | refine AW.skip ?_
        | refine AW.exit rfl ?_
        | refine AW.label ?_
        | refine AW.cond rfl (fun hb => ?_) (fun hb => ?_))
      exact AW.donev rfl ⟨rfl, rfl⟩
  exact Tri.frameD (ah := st.ah b ba bs gA) [true] h1
theorem chk_flag (b ba bs : Nat) (gA : MG) (st : Chk) (f : Int) : Tri Try.prog 73 [.ref b 0, .int .i64 f] (st.ah b ba bs gA) (D (.tup []) ((st.need (decide (0 ≤ f) && decide (f < st.c.Flags))).ah b ba bs gA)) := by
  have h1 := chk_need b ba bs gA st (decide (f < st.c.Flags))
  have h2 := chk_need b ba bs gA st false
  refine Tri.enter 17 Try.func73 rfl rfl rfl rfl fun Fr w0 => ?_
  repeat' (first
    | refine AW.seq ?_
    | (refine AW.region_at 0 ?_ <;> refine AL.ev rfl rfl rfl rfl ?_ <;> refine AL.ev rfl rfl rfl rfl ?_ <;> (first | refine AL.ev rfl rfl rfl rfl ?_ | refine AL.det (AOp.add rfl rfl (by omega)) rfl rfl rfl ?_ | refine AL.det (AOp.sub rfl rfl (by omega)) rfl rfl rfl ?_ | refine AL.det (AOp.bool_eq (by kernel_rfl) rfl rfl) rfl rfl rfl ?_ | refine AL.det (AOp.bool_ne (by kernel_rfl) rfl rfl) rfl rfl rfl ?_) <;> refine AL.ev rfl rfl rfl rfl ?_ <;> (first | (refine AL.guard_do rfl rfl rfl rfl ?_; refine AL.ev rfl rfl rfl rfl ?_) | refine AL.guard_skip rfl rfl rfl rfl rfl ?_ | refine AL.guard_undef rfl rfl rfl rfl ?_ | (refine AL.guard_split rfl rfl rfl (fun hb => ?_) (fun hb => ?_) <;> first | (refine AL.guard_do rfl rfl rfl rfl ?_; refine AL.ev rfl rfl rfl rfl ?_) | refine AL.guard_skip rfl rfl rfl rfl rfl ?_)) <;> (first | (refine AL.guard_do rfl rfl rfl rfl ?_; refine AL.ev rfl rfl rfl rfl ?_) | refine AL.guard_skip rfl rfl rfl rfl rfl ?_ | refine AL.guard_undef rfl rfl rfl rfl ?_ | (refine AL.guard_split rfl rfl rfl (fun hb => ?_) (fun hb => ?_) <;> first | (refine AL.guard_do rfl rfl rfl rfl ?_; refine AL.ev rfl rfl rfl rfl ?_) | refine AL.guard_skip rfl rfl rfl rfl rfl ?_)) <;> (first | (refine AL.guard_do rfl rfl rfl rfl ?_; refine AL.ev rfl rfl rfl rfl ?_) | refine AL.guard_skip rfl rfl rfl rfl rfl ?_ | refine AL.guard_undef rfl rfl rfl rfl ?_ | (refine AL.guard_split rfl rfl rfl (fun hb => ?_) (fun hb => ?_) <;> first | (refine AL.guard_do rfl rfl rfl rfl ?_; refine AL.ev rfl rfl rfl rfl ?_) | refine AL.guard_skip rfl rfl rfl rfl rfl ?_)) <;> (first | (refine AL.guard_do rfl rfl rfl rfl ?_; (first | refine AL.det (AOp.field_at rfl rfl (by kernel_rfl) rfl) rfl rfl rfl ?_ | refine AL.det (AOp.field_ref (off := 0) rfl (by kernel_rfl)) rfl rfl rfl ?_)) | refine AL.guard_skip rfl rfl rfl rfl rfl ?_ | refine AL.guard_undef rfl rfl rfl rfl ?_ | (refine AL.guard_split rfl rfl rfl (fun hb => ?_) (fun hb => ?_) <;> first | (refine AL.guard_do rfl rfl rfl rfl ?_; (first | refine AL.det (AOp.field_at rfl rfl (by kernel_rfl) rfl) rfl rfl rfl ?_ | refine AL.det (AOp.field_ref (off := 0) rfl (by kernel_rfl)) rfl rfl rfl ?_)) | refine AL.guard_skip rfl rfl rfl rfl rfl ?_)) <;> (first | (refine AL.guard_do rfl rfl rfl rfl ?_; (first | refine AL.det (AOp.field_at rfl rfl (by kernel_rfl) rfl) rfl rfl rfl ?_ | refine AL.det (AOp.field_ref (off := 0) rfl (by kernel_rfl)) rfl rfl rfl ?_)) | refine AL.guard_skip rfl rfl rfl rfl rfl ?_ | refine AL.guard_undef rfl rfl rfl rfl ?_ | (refine AL.guard_split rfl rfl rfl (fun hb => ?_) (fun hb => ?_) <;> first | (refine AL.guard_do rfl rfl rfl rfl ?_; (first | refine AL.det (AOp.field_at rfl rfl (by kernel_rfl) rfl) rfl rfl rfl ?_ | refine AL.det (AOp.field_ref (off := 0) rfl (by kernel_rfl)) rfl rfl rfl ?_)) | refine AL.guard_skip rfl rfl rfl rfl rfl ?_)) <;> (first | (refine AL.guard_do rfl rfl rfl rfl ?_; (first | refine AL.det (AOp.load_at rfl rfl (by kernel_rfl)) rfl rfl rfl ?_ | refine AL.det (AOp.load_leaf 0 rfl rfl rfl rfl (by kernel_rfl)) rfl rfl rfl ?_ | refine AL.det (AOp.load_all 0 rfl rfl rfl (by kernel_rfl)) rfl rfl rfl ?_)) | refine AL.guard_skip rfl rfl rfl rfl rfl ?_ | refine AL.guard_undef rfl rfl rfl rfl ?_ | (refine AL.guard_split rfl rfl rfl (fun hb => ?_) (fun hb => ?_) <;> first | (refine AL.guard_do rfl rfl rfl rfl ?_; (first | refine AL.det (AOp.load_at rfl rfl (by kernel_rfl)) rfl rfl rfl ?_ | refine AL.det (AOp.load_leaf 0 rfl rfl rfl rfl (by kernel_rfl)) rfl rfl rfl ?_ | refine AL.det (AOp.load_all 0 rfl rfl rfl (by kernel_rfl)) rfl rfl rfl ?_)) | refine AL.guard_skip rfl rfl rfl rfl rfl ?_)) <;> (first | (refine AL.guard_do rfl rfl rfl rfl ?_; (first | refine AL.ev rfl rfl rfl rfl ?_ | refine AL.det (AOp.add rfl rfl (by omega)) rfl rfl rfl ?_ | refine AL.det (AOp.sub rfl rfl (by omega)) rfl rfl rfl ?_ | refine AL.det (AOp.bool_eq (by kernel_rfl) rfl rfl) rfl rfl rfl ?_ | refine AL.det (AOp.bool_ne (by kernel_rfl) rfl rfl) rfl rfl rfl ?_)) | refine AL.guard_skip rfl rfl rfl rfl rfl ?_ | refine AL.guard_undef rfl rfl rfl rfl ?_ | (refine AL.guard_split rfl rfl rfl (fun hb => ?_) (fun hb => ?_) <;> first | (refine AL.guard_do rfl rfl rfl rfl ?_; (first | refine AL.ev rfl rfl rfl rfl ?_ | refine AL.det (AOp.add rfl rfl (by omega)) rfl rfl rfl ?_ | refine AL.det (AOp.sub rfl rfl (by omega)) rfl rfl rfl ?_ | refine AL.det (AOp.bool_eq (by kernel_rfl) rfl rfl) rfl rfl rfl ?_ | refine AL.det (AOp.bool_ne (by kernel_rfl) rfl rfl) rfl rfl rfl ?_)) | refine AL.guard_skip rfl rfl rfl rfl rfl ?_)) <;> refine AL.ev rfl rfl rfl rfl ?_ <;> (first | refine AL.det (AOp.call rfl rfl h1) rfl rfl rfl ?_ | refine AL.det (AOp.call rfl rfl h2) rfl rfl rfl ?_) <;> refine AL.nil ?_)
    | refine AW.cond_true rfl ?_
    | refine AW.cond_false rfl ?_
    | refine AW.block ?_
    | refine AW.endblk ?_
    | refine AW.skip ?_
    | refine AW.exit rfl ?_
    | refine AW.label ?_
    | refine AW.cond rfl (fun hb => ?_) (fun hb => ?_))
  · exact AW.donev rfl ⟨rfl, by rw [show decide (0 ≤ f) = true from hb]; rfl⟩
  · exact AW.donev rfl ⟨rfl, by rw [show decide (0 ≤ f) = false from hb]; rfl⟩
def Chk.regs (st : Chk) : List Int → Chk
  | [] => st
  | r :: l => (st.need (decide (0 ≤ r) && decide (r < st.c.Regs))).regs l
theorem Chk.regs_c : ∀ (l : List Int) (st : Chk), (st.regs l).c = st.c
  | [], st => rfl
  | r :: l, st => by rw [Chk.regs, Chk.regs_c l]; rfl
theorem chk_regs (b ba bs : Nat) (gA : MG) (st : Chk) (l : List Int) (hl : l.length ≤ 4611686018427387904) : Tri Try.prog 74 [.ref b 0, ints l] (st.ah b ba bs gA) (D (.tup []) ((st.regs l).ah b ba bs gA)) := by
  refine Tri.enter 26 Try.func74 rfl rfl rfl rfl fun Fr w0 => ?_
  repeat' (first
    | refine AW.seq ?_
    | (refine AW.region_at 0 ?_ <;> refine AL.ev rfl rfl rfl rfl ?_ <;> refine AL.det (AOp.len rfl rfl (by kernel_rfl)) rfl rfl rfl ?_ <;> refine AL.ev rfl rfl rfl rfl ?_ <;> refine AL.nil ?_)
    | refine AW.cond_true rfl ?_
    | refine AW.cond_false rfl ?_
    | refine AW.block ?_
    | refine AW.endblk ?_
    | refine AW.skip ?_
    | refine AW.exit rfl ?_
    | refine AW.label ?_
    | refine AW.cond rfl (fun hb => ?_) (fun hb => ?_))
  refine AW.prune [0, 6, 7, 8] (AW.loop (fun m af h => ∃ (i : Nat) (s : Chk), i ≤ l.length ∧ m = l.length - i ∧ af = [(0, .ref b 0), (6, ints l), (7, .int .i64 (l.map iav).length), (8, .int .i64 i)] ∧ h = s.ah b ba bs gA ∧ s.c = st.c ∧ st.regs l = s.regs (l.drop i)) l.length ⟨0, st, Nat.zero_le _, rfl, rfl, rfl, rfl, rfl⟩ ?_)
  rintro m af h ⟨i, s, hi, rfl, rfl, rfl, hsc, he⟩
  refine AW.seq ?_
  by_cases hlt : i < l.length
  · obtain ⟨x, hx⟩ := get_lt hlt
    have hx' : (l.map iav)[((i : Nat) : Int).toNat]? = some (iav x) := map_get hx
    rw [drop_cons hx, Chk.regs] at he
    have h1 := chk_need b ba bs gA s (decide (x < s.c.Regs))
    have h2 := chk_need b ba bs gA s false
    repeat' (first
      | refine AW.seq ?_
      | (refine AW.region_at 0 ?_ <;> refine AL.ev rfl rfl rfl rfl ?_ <;> refine AL.det (AOp.len rfl rfl (by kernel_rfl)) rfl rfl rfl ?_ <;> refine AL.ev rfl rfl rfl rfl ?_ <;> refine AL.nil ?_)
      | (refine AW.region_at 1 ?_ <;> (first | refine AL.ev rfl rfl rfl rfl ?_ | refine AL.det (AOp.add rfl rfl (by omega)) rfl rfl rfl ?_ | refine AL.det (AOp.sub rfl rfl (by omega)) rfl rfl rfl ?_ | refine AL.det (AOp.bool_eq (by kernel_rfl) rfl rfl) rfl rfl rfl ?_ | refine AL.det (AOp.bool_ne (by kernel_rfl) rfl rfl) rfl rfl rfl ?_) <;> refine AL.nil ?_)
      | (refine AW.region_at 2 ?_ <;> refine AL.det (AOp.index_sl rfl rfl (by omega) hx' (by kernel_rfl) rfl) rfl rfl rfl ?_ <;> (first | refine AL.det (AOp.load_at rfl rfl (by kernel_rfl)) rfl rfl rfl ?_ | refine AL.det (AOp.load_leaf 0 rfl rfl rfl rfl (by kernel_rfl)) rfl rfl rfl ?_ | refine AL.det (AOp.load_all 0 rfl rfl rfl (by kernel_rfl)) rfl rfl rfl ?_) <;> refine AL.ev rfl rfl rfl rfl ?_ <;> refine AL.nil ?_)
      | (refine AW.region_at 3 ?_ <;> refine AL.ev rfl rfl rfl rfl ?_ <;> refine AL.ev rfl rfl rfl rfl ?_ <;> (first | refine AL.ev rfl rfl rfl rfl ?_ | refine AL.det (AOp.add rfl rfl (by omega)) rfl rfl rfl ?_ | refine AL.det (AOp.sub rfl rfl (by omega)) rfl rfl rfl ?_ | refine AL.det (AOp.bool_eq (by kernel_rfl) rfl rfl) rfl rfl rfl ?_ | refine AL.det (AOp.bool_ne (by kernel_rfl) rfl rfl) rfl rfl rfl ?_) <;> refine AL.ev rfl rfl rfl rfl ?_ <;> (first | (refine AL.guard_do rfl rfl rfl rfl ?_; refine AL.ev rfl rfl rfl rfl ?_) | refine AL.guard_skip rfl rfl rfl rfl rfl ?_ | refine AL.guard_undef rfl rfl rfl rfl ?_ | (refine AL.guard_split rfl rfl rfl (fun hb => ?_) (fun hb => ?_) <;> first | (refine AL.guard_do rfl rfl rfl rfl ?_; refine AL.ev rfl rfl rfl rfl ?_) | refine AL.guard_skip rfl rfl rfl rfl rfl ?_)) <;> (first | (refine AL.guard_do rfl rfl rfl rfl ?_; refine AL.ev rfl rfl rfl rfl ?_) | refine AL.guard_skip rfl rfl rfl rfl rfl ?_ | refine AL.guard_undef rfl rfl rfl rfl ?_ | (refine AL.guard_split rfl rfl rfl (fun hb => ?_) (fun hb => ?_) <;> first | (refine AL.guard_do rfl rfl rfl rfl ?_; refine AL.ev rfl rfl rfl rfl ?_) | refine AL.guard_skip rfl rfl rfl rfl rfl ?_)) <;> (first | (refine AL.guard_do rfl rfl rfl rfl ?_; refine AL.ev rfl rfl rfl rfl ?_) | refine AL.guard_skip rfl rfl rfl rfl rfl ?_ | refine AL.guard_undef rfl rfl rfl rfl ?_ | (refine AL.guard_split rfl rfl rfl (fun hb => ?_) (fun hb => ?_) <;> first | (refine AL.guard_do rfl rfl rfl rfl ?_; refine AL.ev rfl rfl rfl rfl ?_) | refine AL.guard_skip rfl rfl rfl rfl rfl ?_)) <;> (first | (refine AL.guard_do rfl rfl rfl rfl ?_; (first | refine AL.det (AOp.field_at rfl rfl (by kernel_rfl) rfl) rfl rfl rfl ?_ | refine AL.det (AOp.field_ref (off := 0) rfl (by kernel_rfl)) rfl rfl rfl ?_)) | refine AL.guard_skip rfl rfl rfl rfl rfl ?_ | refine AL.guard_undef rfl rfl rfl rfl ?_ | (refine AL.guard_split rfl rfl rfl (fun hb => ?_) (fun hb => ?_) <;> first | (refine AL.guard_do rfl rfl rfl rfl ?_; (first | refine AL.det (AOp.field_at rfl rfl (by kernel_rfl) rfl) rfl rfl rfl ?_ | refine AL.det (AOp.field_ref (off := 0) rfl (by kernel_rfl)) rfl rfl rfl ?_)) | refine AL.guard_skip rfl rfl rfl rfl rfl ?_)) <;> (first | (refine AL.guard_do rfl rfl rfl rfl ?_; (first | refine AL.det (AOp.field_at rfl rfl (by kernel_rfl) rfl) rfl rfl rfl ?_ | refine AL.det (AOp.field_ref (off := 1) rfl (by kernel_rfl)) rfl rfl rfl ?_)) | refine AL.guard_skip rfl rfl rfl rfl rfl ?_ | refine AL.guard_undef rfl rfl rfl rfl ?_ | (refine AL.guard_split rfl rfl rfl (fun hb => ?_) (fun hb => ?_) <;> first | (refine AL.guard_do rfl rfl rfl rfl ?_; (first | refine AL.det (AOp.field_at rfl rfl (by kernel_rfl) rfl) rfl rfl rfl ?_ | refine AL.det (AOp.field_ref (off := 1) rfl (by kernel_rfl)) rfl rfl rfl ?_)) | refine AL.guard_skip rfl rfl rfl rfl rfl ?_)) <;> (first | (refine AL.guard_do rfl rfl rfl rfl ?_; (first | refine AL.det (AOp.load_at rfl rfl (by kernel_rfl)) rfl rfl rfl ?_ | refine AL.det (AOp.load_leaf 0 rfl rfl rfl rfl (by kernel_rfl)) rfl rfl rfl ?_ | refine AL.det (AOp.load_all 0 rfl rfl rfl (by kernel_rfl)) rfl rfl rfl ?_)) | refine AL.guard_skip rfl rfl rfl rfl rfl ?_ | refine AL.guard_undef rfl rfl rfl rfl ?_ | (refine AL.guard_split rfl rfl rfl (fun hb => ?_) (fun hb => ?_) <;> first | (refine AL.guard_do rfl rfl rfl rfl ?_; (first | refine AL.det (AOp.load_at rfl rfl (by kernel_rfl)) rfl rfl rfl ?_ | refine AL.det (AOp.load_leaf 0 rfl rfl rfl rfl (by kernel_rfl)) rfl rfl rfl ?_ | refine AL.det (AOp.load_all 0 rfl rfl rfl (by kernel_rfl)) rfl rfl rfl ?_)) | refine AL.guard_skip rfl rfl rfl rfl rfl ?_)) <;> (first | (refine AL.guard_do rfl rfl rfl rfl ?_; (first | refine AL.ev rfl rfl rfl rfl ?_ | refine AL.det (AOp.add rfl rfl (by omega)) rfl rfl rfl ?_ | refine AL.det (AOp.sub rfl rfl (by omega)) rfl rfl rfl ?_ | refine AL.det (AOp.bool_eq (by kernel_rfl) rfl rfl) rfl rfl rfl ?_ | refine AL.det (AOp.bool_ne (by kernel_rfl) rfl rfl) rfl rfl rfl ?_)) | refine AL.guard_skip rfl rfl rfl rfl rfl ?_ | refine AL.guard_undef rfl rfl rfl rfl ?_ | (refine AL.guard_split rfl rfl rfl (fun hb => ?_) (fun hb => ?_) <;> first | (refine AL.guard_do rfl rfl rfl rfl ?_; (first | refine AL.ev rfl rfl rfl rfl ?_ | refine AL.det (AOp.add rfl rfl (by omega)) rfl rfl rfl ?_ | refine AL.det (AOp.sub rfl rfl (by omega)) rfl rfl rfl ?_ | refine AL.det (AOp.bool_eq (by kernel_rfl) rfl rfl) rfl rfl rfl ?_ | refine AL.det (AOp.bool_ne (by kernel_rfl) rfl rfl) rfl rfl rfl ?_)) | refine AL.guard_skip rfl rfl rfl rfl rfl ?_)) <;> refine AL.ev rfl rfl rfl rfl ?_ <;> (first | refine AL.det (AOp.call rfl rfl h1) rfl rfl rfl ?_ | refine AL.det (AOp.call rfl rfl h2) rfl rfl rfl ?_) <;> refine AL.nil ?_)
      | (refine AW.region_at 4 ?_ <;> (first | refine AL.ev rfl rfl rfl rfl ?_ | refine AL.det (AOp.add rfl rfl (by omega)) rfl rfl rfl ?_ | refine AL.det (AOp.sub rfl rfl (by omega)) rfl rfl rfl ?_ | refine AL.det (AOp.bool_eq (by kernel_rfl) rfl rfl) rfl rfl rfl ?_ | refine AL.det (AOp.bool_ne (by kernel_rfl) rfl rfl) rfl rfl rfl ?_) <;> refine AL.ev rfl rfl rfl rfl ?_ <;> refine AL.nil ?_)
      | refine AW.cond_true rfl ?_
      | refine AW.cond_false rfl ?_
      | refine AW.block ?_
      | refine AW.endblk ?_
      | refine AW.skip ?_
      | refine AW.exit rfl ?_
      | refine AW.label ?_
      | refine AW.cond rfl (fun hb => ?_) (fun hb => ?_))
    all_goals first
      | (exfalso; simp only [decide_eq_true_eq, decide_eq_false_iff_not, List.length_map] at *; omega)
      | (refine AW.again_keep (l.length - (i + 1)) [0, 6, 7, 8] (by omega) ⟨i + 1, _, hlt, rfl, rfl, rfl, ?_, ?_⟩; exact hsc; rw [he, show decide (0 ≤ x) = true from hb]; rfl)
      | (refine AW.again_keep (l.length - (i + 1)) [0, 6, 7, 8] (by omega) ⟨i + 1, _, hlt, rfl, rfl, rfl, ?_, ?_⟩; exact hsc; rw [he, show decide (0 ≤ x) = false from hb]; rfl)
  · rw [List.drop_eq_nil_of_le (by omega), Chk.regs] at he
    repeat' (first
      | refine AW.seq ?_
      | (refine AW.region_at 1 ?_ <;> (first | refine AL.ev rfl rfl rfl rfl ?_ | refine AL.det (AOp.add rfl rfl (by omega)) rfl rfl rfl ?_ | refine AL.det (AOp.sub rfl rfl (by omega)) rfl rfl rfl ?_ | refine AL.det (AOp.bool_eq (by kernel_rfl) rfl rfl) rfl rfl rfl ?_ | refine AL.det (AOp.bool_ne (by kernel_rfl) rfl rfl) rfl rfl rfl ?_) <;> refine AL.nil ?_)
      | refine AW.cond_true rfl ?_
      | refine AW.cond_false rfl ?_
      | refine AW.block ?_
      | refine AW.endblk ?_
      | refine AW.skip ?_
      | refine AW.exit rfl ?_
      | refine AW.label ?_
      | refine AW.cond rfl (fun hb => ?_) (fun hb => ?_))
    all_goals first
      | (exfalso; simp only [decide_eq_true_eq, decide_eq_false_iff_not, List.length_map] at *; omega)
      | exact AW.donev rfl ⟨rfl, by rw [he]⟩
end Go.Proofs.Ytdedkpfbfklgbaa
